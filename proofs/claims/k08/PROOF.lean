import PyProof.Rows.All
import Wide.All
import OpenK.AllK
import Wide.FinOn
import HandS.ForMost
import HandS.Wide
import HandS.TupAny
import HandS.TupMul
import HandS.IsInst
import HandS.SetKeys
import HandS.Zip
import HandS.Walk
import HandS.Exc
import HandS.ExcCtx
import HandS.Lambda
import HandS.HotCalls
import HandS.ExcIs
import HandS.ExcOwn
import HandS.Style
import HandS.HeadHook1
import HandS.Text
import HandS.Deep
import HandS.FStr
import HandS.HeadHook4
import PyProof.Rows.TupIter
import HandS.Defaults
import HandS.EndTab
import HandS.Set
import HandS.SetFor
import HandS.Strs
import PyProof.Rows.SortShellAny
import HandS.RaiseMore
import KE.KDictZip
import PyProof.ListNew
import KE.DataFind
import KE.GoesMore
import HandS.Codes
import HandS.Head0
import HandS.Head1
import HandS.Head2
import HandS.HeadEnd
import HandS.EndBits
import HandS.HeadHook2
import HandS.HeadWalk
import PySem.Challenge.RW_roomfeud_k08_choices_and_what_follows
section
set_option Elab.async false
set_option linter.all false
set_option maxRecDepth 100000
/-! A small evaluator over tree data (values W over PyData, a list of mutable objects) for the part of Python that the program is written in. -/
namespace RF
open PySem
abbrev D := PyData
/-- a value: tree data that nobody changes any more, or a mutable object by its number -/
inductive W where
  | d (x : D)
  | ref (n : Nat)
  /-- the script -/
  | scr (ns : List Int)
inductive Ob where
  | lst (xs : List D)
abbrev Gs := List (Option Ob)
structure Exn where
  cls : Str
  arg : Option D
inductive Out (α : Type) where
  | ok (a : α) (g : Gs)
  | exc (e : Exn) (g : Gs)
  | no
namespace Out
def bind {α β : Type} : Out α → (α → Gs → Out β) → Out β
  | .ok a g, f => f a g
  | .exc e g, _ => .exc e g
  | .no, _ => .no
@[simp] theorem bind_ok {α β : Type} (a : α) (g : Gs) (f : α → Gs → Out β) : (Out.ok a g).bind f = f a g := id rfl
@[simp] theorem bind_exc {α β : Type} (e : Exn) (g : Gs) (f : α → Gs → Out β) : (Out.exc e g).bind f = .exc e g := id rfl
@[simp] theorem bind_no {α β : Type} (f : α → Gs → Out β) : (Out.no).bind f = .no := id rfl
def ofO {α : Type} (g : Gs) : Option α → Out α
  | some a => .ok a g
  | none => .no
@[simp] theorem ofO_some {α : Type} (g : Gs) (a : α) : ofO g (some a) = .ok a g := id rfl
@[simp] theorem ofO_none {α : Type} (g : Gs) : ofO g (none : Option α) = .no := id rfl
end Out
abbrev Env := List (Option W)

/-- what a value reads as -/
def peek (g : Gs) : W → Option D
  | .d x => some x
  | .scr _ => none
  | .ref n => match g[n]? with
    | some (some (.lst xs)) => some (.list xs)
    | _ => none
@[simp] theorem peek_d (g : Gs) (x : D) : peek g (.d x) = some x := id rfl

/-! ### operators -/
inductive BO where | add | sub | mul | fdiv | mod | pow
inductive CO where | eq | ne | lt | le | gt | ge | isin | notin | is | isnot
  deriving DecidableEq
def catOk {α : Type} (xs ys : List α) : Bool := decide (xs.length + ys.length ≤ sizeLine)
/-- a * b of ints, within bounds -/
def mulOk (a b : Int) : Bool := decide (a.natAbs.log2 + b.natAbs.log2 < 1000000)
def divOk (b : Int) : Bool := decide (0 < b) && decide (b.natAbs.log2 < 9000)
def powOk (a b : Int) : Bool := decide (0 ≤ b) && decide (b ≤ 1000000) && decide (a.natAbs < 18446744073709551616)
def repOk {α : Type} (xs : List α) (k : Int) : Bool := decide (k < 4611686018427387904) && decide (-4611686018427387904 ≤ k) && decide (xs.length * k.toNat ≤ sizeLine)
def repTOk {α : Type} (xs : List α) (k : Int) : Bool := decide (2 ≤ k) && decide (k ≤ 1000) && decide (xs.length ≤ 1000) && !xs.isEmpty
def binD : BO → D → D → Option D
  | .add, .int a, .int b => some (.int (a + b))
  | .add, .str a, .str b => if decide (a.length + b.length ≤ sizeLine) = true then some (.str (a ++ b)) else none
  | .add, .tuple xs, .tuple ys => if catOk xs ys = true then some (.tuple (xs ++ ys)) else none
  | .add, .list xs, .list ys => if catOk xs ys = true then some (.list (xs ++ ys)) else none
  | .sub, .int a, .int b => some (.int (a - b))
  | .mul, .int a, .int b => if mulOk a b = true then some (.int (a * b)) else none
  | .mul, .tuple xs, .int k => if repTOk xs k = true then some (.tuple (List.replicate k.toNat xs).flatten) else none
  | .mul, .list xs, .int k => if repOk xs k = true then some (.list (List.replicate k.toNat xs).flatten) else none
  | .fdiv, .int a, .int b => if divOk b = true then some (.int (a / b)) else none
  | .mod, .int a, .int b => if decide (0 < b) = true then some (.int (a % b)) else none
  | .pow, .int a, .int b => if powOk a b = true then some (.int (a ^ b.toNat)) else none
  | _, _, _ => none
def depthOk (x y : D) : Bool := decide (min x.depth y.depth ≤ 64)
def isD : D → D → Option Bool
  | .none, .none => some true
  | .bool _, .none => some false
  | .int _, .none => some false
  | .str _, .none => some false
  | .list _, .none => some false
  | .tuple _, .none => some false
  | .bool a, .bool b => some (decide (a = b))
  | _, _ => none
/-- the first written place of one text in another -/
def inStr (x y : Str) : Bool := !(Builtin.Str.occurrences y x 0 y.length 1).isEmpty
def inAll (x : D) (ys : List D) : Option Bool := if decide (x.depth ≤ 64) = true then some (ys.any fun y => PyData.eqv y x) else none
def inD : D → D → Option Bool
  | x, .tuple ys => inAll x ys
  | x, .list ys => inAll x ys
  | .str x, .str y => some (inStr x y)
  | _, _ => none
def cmpD : CO → D → D → Option Bool
  | .eq, x, y => if depthOk x y = true then some (PyData.eqv x y) else none
  | .ne, x, y => if depthOk x y = true then some (!PyData.eqv x y) else none
  | .lt, .int a, .int b => some (decide (a < b))
  | .le, .int a, .int b => some (decide (a ≤ b))
  | .gt, .int a, .int b => some (decide (b < a))
  | .ge, .int a, .int b => some (decide (b ≤ a))
  | .isin, x, y => inD x y
  | .notin, x, y => (inD x y).map (!·)
  | .is, x, y => isD x y
  | .isnot, x, y => (isD x y).map (!·)
  | _, _, _ => none

/-- a text that may stand as data -/
def okS (x : Str) : Bool := PyData.strOk x && decide (x.length ≤ sizeLine)
/-! ### subscripts -/
def natIx (n : Nat) (i : Int) : Option Nat := L2.ixN n i
def idxD : D → D → Option D
  | .tuple xs, .int i => L2.atI xs i
  | .list xs, .int i => L2.atI xs i
  | _, _ => none
def cutD (xs : List D) (lo hi : Option Int) : List D := (xs.drop (HT.sIx xs.length 0 lo)).take (HT.sIx xs.length xs.length hi - HT.sIx xs.length 0 lo)
def sliceD : D → Option Int → Option Int → Option D
  | .tuple xs, lo, hi => some (.tuple (cutD xs lo hi))
  | .list xs, lo, hi => some (.list (cutD xs lo hi))
  | .str z, lo, hi => if okS (L2.cutS z lo hi) = true then some (.str (L2.cutS z lo hi)) else none
  | _, _, _ => none

/-! ### built-in functions -/
inductive Ty where | int | bool | str | tuple | list
  deriving DecidableEq
def isTy : Ty → D → Bool
  | .int, .int _ => true
  | .int, .bool _ => true
  | .bool, .bool _ => true
  | .str, .str _ => true
  | .tuple, .tuple _ => true
  | .list, .list _ => true
  | _, _ => false
def lenD : D → Option Int
  | .tuple xs => some xs.length
  | .list xs => some xs.length
  | .str x => some x.length
  | _ => none
def seqD : D → Option (List D)
  | .tuple xs => some xs
  | .list xs => some xs
  | _ => none
def boolsD : List D → Option (List Bool)
  | [] => some []
  | .bool b :: r => (boolsD r).map (b :: ·)
  | _ :: _ => none
def intsD : List D → Option (List Int)
  | [] => some []
  | .int b :: r => (intsD r).map (b :: ·)
  | _ :: _ => none
def strsD : List D → Option (List Str)
  | [] => some []
  | .str b :: r => (strsD r).map (b :: ·)
  | _ :: _ => none
/-- insertion into an ascending list, sorting of ints -/
def insI (x : Int) : List Int → List Int
  | [] => [x]
  | y :: r => if x ≤ y then x :: y :: r else y :: insI x r
def sortI : List Int → List Int
  | [] => []
  | x :: r => insI x (sortI r)
/-- texts by their signs -/
def leS (x y : Str) : Bool := !Spec.ltCps y.cps.toList x.cps.toList
def insS (x : Str) : List Str → List Str
  | [] => [x]
  | y :: r => if leS x y = true then x :: y :: r else y :: insS x r
def sortS : List Str → List Str
  | [] => []
  | x :: r => insS x (sortS r)
def dedupS : List Str → List Str
  | [] => []
  | x :: r => if r.contains x then dedupS r else x :: dedupS r
inductive Bi where
  | len | int | all | any | tuple | list | sorted | sortedSet | min2 | max2 | listZip | str
  deriving DecidableEq
/-- what a part of an f-string writes -/
def fmtD : D → Option D
  | .str y => some (.str y)
  | .int i => if (decide (i.natAbs.log2 < 1920) && okS (toString i)) = true then some (.str (toString i)) else none
  | _ => none
/-- what a built-in function answers; a new list is told as data -/
def biD : Bi → List D → Option D
  | .str, [x] => fmtD x
  | .len, [x] => (lenD x).map .int
  | .int, [.int i] => some (.int i)
  | .int, [.bool b] => some (.int (if b then 1 else 0))
  | .all, [.list xs] => (boolsD xs).map fun bs => .bool (bs.all id)
  | .any, [.list xs] => (boolsD xs).map fun bs => .bool (bs.any id)
  | .tuple, [x] => (seqD x).map .tuple
  | .list, [x] => (seqD x).map .list
  | .sorted, [.list xs] => (intsD xs).bind fun ns => if decide (ns.length < 64) = true then some (.list ((sortI ns).map .int)) else none
  | .sortedSet, [.tuple xs] => (strsD xs).bind fun ns => if decide (ns.length < 64) = true then some (.list ((sortS (dedupS ns)).map .str)) else none
  | .min2, [.int a, .int b] => some (.int (if b < a then b else a))
  | .max2, [.int a, .int b] => some (.int (if a < b then b else a))
  | .listZip, [.list xs, .list ys] => some (.list ((xs.zip ys).map fun p => .tuple [p.1, p.2]))
  | _, _ => none

/-! ### methods -/
inductive Me where | split | join | index | count
  deriving DecidableEq
/-- the first place of what is alike -/
def firstIx (y : D) : List D → Option Nat
  | [] => none
  | x :: r => if PyData.eqv x y = true then some 0 else (firstIx y r).map (· + 1)
def joinOk (a : Str) (ys : List Str) : Bool := decide ((ys.map (·.length)).sum + ys.length * a.length ≤ 16777216) && okS (Txt.join a ys)
def meD : Me → D → D → Option D
  | .split, .str a, .str b => if (!(b.length == 0) && (decide (a.length + 2 ≤ sizeLine) && (Txt.split a b).all okS)) = true then some (.list ((Txt.split a b).map .str)) else none
  | .join, .str a, .list xs => (strsD xs).bind fun ys => if joinOk a ys = true then some (.str (Txt.join a ys)) else none
  | .join, .str a, .tuple xs => (strsD xs).bind fun ys => if joinOk a ys = true then some (.str (Txt.join a ys)) else none
  | .count, .list ds, y => if decide (min (PyData.depthAll ds) y.depth ≤ 64) = true then some (.int (ds.countP fun z => PyData.eqv z y : Nat)) else none
  | .index, .list ds, y => if (SeqAt.shaped (.list ds) && SeqAt.shaped y) = true then (firstIx y ds).map fun j => .int (j : Nat) else none
  | _, _, _ => none

/-! ### an error told by words -/
def kinX : List Str := ["InvalidBook", "InvalidFeelings", "InvalidHouse", "InvalidStart", "InvalidStand", "InvalidRun", "InvalidPerson", "InvalidDeed", "InvalidWord", "InvalidIndex", "Unlike", "NothingToUndo", "TooMany", "InvalidText", "ValueError"]
def kinWords : Str := "book feelings house start stand run person deed word index unlike undo many text +"
/-- what is told of an error for whose classes f is true -/
def kinT (f : Str → Bool) : Str := Txt.join " " ((((Txt.split kinWords " ").zip (kinX.map f)).filter (·.2)).map (·.1))
/-- the classes of an error of the class c -/
def kf (c : Str) : Str → Bool := fun x => decide (x = c) || decide (x = ("ValueError" : Str))
/-- the classes of errors that tell no value -/
def excN : List Str := kinX.take 12

/-! ### the syntax -/
mutual
inductive Tg where
  | nm (i : Nat)
  | tup (ts : Tgs)
inductive Tgs where
  | nil
  | cons (t : Tg) (r : Tgs)
end
mutual
inductive Ex where
  | var (i : Nat)
  | cst (d : D)
  | glob (x : Str) (d : D)
  | tup (es : Exs)
  /-- a new list -/
  | lst (es : Exs)
  /-- the new list of e, as data -/
  | frz (e : Ex)
  | bin (o : BO) (a b : Ex)
  /-- a list and the script -/
  | adds (a : Ex) (i : Nat)
  | neg (a : Ex)
  | cmp (o : CO) (a b : Ex)
  | chain (o p : CO) (a b c : Ex)
  | nt (a : Ex)
  | bone (a : Ex)
  | land (a r : Ex)
  | lor (a r : Ex)
  | ite (c a b : Ex)
  | idx (a i : Ex)
  | sl (a : Ex) (lo hi : Exo)
  | call (f : Nat) (es : Exs)
  | bi (b : Bi) (es : Exs)
  | isi (a : Ex) (t : List Ty)
  /-- o.m(e), of data -/
  | meth (m : Me) (o e : Ex)
  /-- a part of an f-string -/
  | fmt (e : Ex)
  | fstr (es : Exs)
  /-- str(e), by another name than the built-ins' (it takes what it is given) -/
  | dead
  /-- the call f(es) tried, its error told by words -/
  | tryc (f : Nat) (es : Exs)
  /-- a new list by a comprehension, own: the slots of its own names -/
  | lc (elt : Ex) (tg : Tg) (it : Itx) (ifs : Exo) (own : List Nat)
inductive Exs where
  | nil
  | cons (e : Ex) (r : Exs)
inductive Exo where
  | none
  | some (e : Ex)
inductive Itx where
  | seq (e : Ex)
  | rng1 (a : Ex)
  | rng2 (a b : Ex)
  | rng3 (a b c : Ex)
  | zip (a b : Ex)
  | enum (a : Ex)
end
mutual
inductive St where
  | set (t : Tg) (e : Ex)
  | par (ts : List Nat) (es : Exs)
  | setix (o : Ex) (i : Ex) (e : Ex)
  | aug (i : Nat) (o : BO) (e : Ex)
  | ext (i : Nat) (e : Ex)
  | ex (e : Ex)
  | app (o e : Ex)
  | ite (c : Ex) (a b : Sts)
  | for_ (t : Tg) (it : Itx) (b : Sts)
  | whl (c : Ex) (b : Sts)
  | ret (e : Ex)
  | raise (cls : Str) (m : Str)
  | doc
  | dead
  | frzv (i : Nat)
inductive Sts where
  | nil
  | cons (s : St) (r : Sts)
end

def Exs.of : List Ex → Exs
  | [] => .nil
  | e :: r => .cons e (Exs.of r)
def Exs.toL : Exs → List Ex
  | .nil => []
  | .cons e r => e :: r.toL
def Tgs.of : List Tg → Tgs
  | [] => .nil
  | e :: r => .cons e (Tgs.of r)
def Sts.of : List St → Sts
  | [] => .nil
  | e :: r => .cons e (Sts.of r)
/-! ### what it does -/
mutual
def bindT : Tg → W → Env → Option Env
  | .nm i, w, env => if i < env.length then some (env.set i (some w)) else none
  | .tup ts, .d (.tuple xs), env => bindTs ts xs env
  | .tup _, _, _ => none
def bindTs : Tgs → List D → Env → Option Env
  | .nil, [], env => some env
  | .cons t r, x :: xs, env => (bindT t (.d x) env).bind fun env' => bindTs r xs env'
  | _, _, _ => none
end
def asB (g : Gs) : W → Out Bool
  | .d (.bool b) => .ok b g
  | _ => .no
@[simp] theorem asB_b (g : Gs) (b : Bool) : asB g (.d (.bool b)) = .ok b g := id rfl
/-- a value as data; a mutable object is handed over -/
def give (g : Gs) : W → Out D
  | .d x => .ok x g
  | .scr _ => .no
  | .ref n => match g[n]? with
    | some (some (.lst xs)) => .ok (.list xs) (g.set n none)
    | _ => .no
@[simp] theorem give_d (g : Gs) (x : D) : give g (.d x) = .ok x g := id rfl
def gives (g : Gs) : List W → Out (List D)
  | [] => .ok [] g
  | w :: r => (give g w).bind fun x g1 => (gives g1 r).bind fun xs g2 => .ok (x :: xs) g2
def peeks (g : Gs) : List W → Option (List D)
  | [] => some []
  | w :: r => (peek g w).bind fun x => (peeks g r).map (x :: ·)
/-- a new list -/
def newL (g : Gs) (xs : List D) : Out W := .ok (.ref g.length) (g ++ [some (.lst xs)])
/-- the new object of w as data, all that is younger than n forgotten -/
def freezeAt (n : Nat) (g : Gs) : W → Out W
  | .d x => .ok (.d x) (g.take n)
  | .scr _ => .no
  | .ref m => if n ≤ m then (match g[m]? with
    | some (some (.lst xs)) => .ok (.d (.list xs)) (g.take n)
    | _ => .no) else .no
def partI : W → Gs → Out (Option Int)
  | .d (.int i), g => .ok (some i) g
  | _, _ => .no
/-- a comprehension's turns: acc so far -/
def lcGo (bnd : D → Option Env) (test : Env → Gs → Out Bool) (elt : Env → Gs → Out W) : List D → List D → Gs → Out (List D)
  | [], acc, g => .ok acc g
  | x :: xs, acc, g => match bnd x with
    | none => .no
    | some env => (test env g).bind fun b g1 => if b = true then ((elt env g1).bind fun w g2 => (give g2 w).bind fun y g3 => lcGo bnd test elt xs (acc ++ [y]) g3) else lcGo bnd test elt xs acc g1
def wipeE (env : Env) : List Nat → Env
  | [] => env
  | v :: vs => (wipeE env vs).set v none
/-- what is raised within a comprehension is not served -/
def noExc {α : Type} : Out α → Out α
  | .ok a g => .ok a g
  | _ => .no
def newB : Bi → Bool
  | .list | .sorted | .sortedSet | .listZip => true
  | _ => false
/-- a built-in's answer: a new list is a new object -/
def biW (b : Bi) (g : Gs) (xs : List D) : Out W := match biD b xs with
  | some (.list ys) => if newB b = true then newL g ys else .no
  | some y => .ok (.d y) g
  | none => .no
def binW (o : BO) (g : Gs) (x y : D) : Out W := match binD o x y with
  | some (.list zs) => newL g zs
  | some z => .ok (.d z) g
  | none => .no
/-- whose method it is -/
def meRecv : Me → Option D → Bool
  | .split, some (.str _) => true
  | .join, some (.str _) => true
  | .index, some (.list _) => true
  | .count, some (.list _) => true
  | _, _ => false
def meW (m : Me) (g : Gs) (x y : D) : Out W := match meD m x y with
  | some (.list zs) => newL g zs
  | some z => .ok (.d z) g
  | none => .no
def fmtW (g : Gs) (x : D) : Out W := match fmtD x with
  | some z => .ok (.d z) g
  | none => .no
/-- range(a, b, c) -/
def rng3W (g : Gs) : W → W → W → Out (List D)
  | .d (.int i), .d (.int j), .d (.int c) => if (decide (c ≠ 0) && (decide (c.natAbs < 1073741824) && (Builtin.Range.small i j c && decide (0 ≤ Builtin.Range.rangeSize i j c)))) = true then .ok ((List.range (Builtin.Range.rangeSize i j c).toNat).map fun n => .int (i + (n : Nat) * c)) g else .no
  | _, _, _ => .no
def sliceW (g : Gs) (x : D) (lo hi : Option Int) : Out W := match sliceD x lo hi with
  | some (.list zs) => newL g zs
  | some z => .ok (.d z) g
  | none => .no
/-- a try's answer; n objects were there -/
def tryW (n : Nat) : Out W → Out W
  | .ok w g1 => (give g1 w).bind fun x g2 => .ok (.d (.tuple [.str "told", x])) g2
  | .exc e g1 => (match e.arg with
    | none => .ok (.d (.str (kinT (kf e.cls)))) (g1.take n)
    | some _ => .no)
  | .no => .no
mutual
def evE (C : Nat → List W → Gs → Out W) : Ex → Env → Gs → Out W
  | .var i, env, g => match env[i]? with
    | some (some w) => .ok w g
    | _ => .no
  | .cst d, _, g => .ok (.d d) g
  | .glob _ d, _, g => .ok (.d d) g
  | .tup es, env, g => (evEs C es env g).bind fun ws g1 => (gives g1 ws).bind fun xs g2 => if decide (xs.length ≤ sizeLine) = true then .ok (.d (.tuple xs)) g2 else .no
  | .lst es, env, g => (evEs C es env g).bind fun ws g1 => (gives g1 ws).bind fun xs g2 => if decide (xs.length ≤ sizeLine) = true then newL g2 xs else .no
  | .frz e, env, g => (evE C e env g).bind fun w g1 => freezeAt g.length g1 w
  | .bin o a b, env, g => (evE C a env g).bind fun x g1 => (evE C b env g1).bind fun y g2 => (Out.ofO g2 (peek g2 x)).bind fun x' _ => (Out.ofO g2 (peek g2 y)).bind fun y' _ => binW o g2 x' y'
  | .adds a i, env, g => (evE C a env g).bind fun x g1 => match x, env[i]? with
    | .d (.list xs), some (some (.scr ns)) => if decide (xs.length + ns.length ≤ sizeLine) = true then newL g1 (xs ++ ns.map .int) else .no
    | _, _ => .no
  | .neg a, env, g => (evE C a env g).bind fun x g1 => match x with
    | .d (.int i) => .ok (.d (.int (-i))) g1
    | _ => .no
  | .cmp o a b, env, g => (evE C a env g).bind fun x g1 => (evE C b env g1).bind fun y g2 => (Out.ofO g2 (peek g2 x)).bind fun x' _ => (Out.ofO g2 (peek g2 y)).bind fun y' _ => (Out.ofO g2 (cmpD o x' y')).bind fun r _ => .ok (.d (.bool r)) g2
  | .chain o p a b c, env, g => (evE C a env g).bind fun x g1 => (evE C b env g1).bind fun y g2 => (Out.ofO g2 (peek g2 x)).bind fun x' _ => (Out.ofO g2 (peek g2 y)).bind fun y' _ => (Out.ofO g2 (cmpD o x' y')).bind fun r _ =>
      if r = true then (evE C c env g2).bind fun z g3 => (Out.ofO g3 (peek g3 y)).bind fun y' _ => (Out.ofO g3 (peek g3 z)).bind fun z' _ => (Out.ofO g3 (cmpD p y' z')).bind fun r _ => .ok (.d (.bool r)) g3
      else .ok (.d (.bool false)) g2
  | .nt a, env, g => (evE C a env g).bind fun x g1 => (asB g1 x).bind fun b g2 => .ok (.d (.bool (!b))) g2
  | .bone a, env, g => evE C a env g
  | .land a r, env, g => (evE C a env g).bind fun x g1 => (asB g1 x).bind fun b g2 => if b = true then evE C r env g2 else .ok (.d (.bool false)) g2
  | .lor a r, env, g => (evE C a env g).bind fun x g1 => (asB g1 x).bind fun b g2 => if b = true then .ok (.d (.bool true)) g2 else evE C r env g2
  | .ite c a b, env, g => (evT C c env g).bind fun t g1 => if t = true then evE C a env g1 else evE C b env g1
  | .idx a i, env, g => (evE C a env g).bind fun x g1 => (evE C i env g1).bind fun y g2 => (Out.ofO g2 (peek g2 x)).bind fun x' _ => (Out.ofO g2 (peek g2 y)).bind fun y' _ => (Out.ofO g2 (idxD x' y')).bind fun z _ => .ok (.d z) g2
  | .sl a lo hi, env, g => (evE C a env g).bind fun x g1 => (evO C lo env g1).bind fun l g2 => (evO C hi env g2).bind fun h g3 => (Out.ofO g3 (peek g3 x)).bind fun x' _ => sliceW g3 x' l h
  | .call f es, env, g => (evEs C es env g).bind fun ws g1 => C f ws g1
  | .bi b es, env, g => (evEs C es env g).bind fun ws g1 => (Out.ofO g1 (peeks g1 ws)).bind fun xs _ => biW b g1 xs
  | .isi a ts, env, g => (evE C a env g).bind fun x g1 => (Out.ofO g1 (peek g1 x)).bind fun x' _ => .ok (.d (.bool (ts.any fun t => isTy t x'))) g1
  | .meth m o e, env, g => (evE C o env g).bind fun x g1 => if meRecv m (peek g1 x) = true then (evE C e env g1).bind fun y g2 => (Out.ofO g2 (peek g2 x)).bind fun x' _ => (Out.ofO g2 (peek g2 y)).bind fun y' _ => meW m g2 x' y' else .no
  | .fmt e, env, g => (evE C e env g).bind fun x g1 => (Out.ofO g1 (peek g1 x)).bind fun x' _ => fmtW g1 x'
  | .fstr es, env, g => (evJ C es Str.empty env g).bind fun z g1 => .ok (.d (.str z)) g1
  | .dead, _, _ => .no
  | .tryc f es, env, g => match evEs (fun i => C (i + 1000)) es env g with
    | .ok ws g1 => tryW g.length (C (f + 1000) ws g1)
    | _ => .no
  | .lc elt tg it ifs own, env, g => (evI C it env g).bind fun xs g1 => if decide (xs.length ≤ sizeLine) = true then
      (noExc (lcGo (fun x => bindT tg (.d x) (wipeE env own)) (fun env g => evTo C ifs env g) (fun env g => evE C elt env g) xs [] g1)).bind fun ys g2 => newL g2 ys else .no
def evT (C : Nat → List W → Gs → Out W) : Ex → Env → Gs → Out Bool
  | .nt a, env, g => (evT C a env g).bind fun b g1 => .ok (!b) g1
  | .bone a, env, g => evT C a env g
  | .land a r, env, g => (evT C a env g).bind fun b g1 => if b = true then evT C r env g1 else .ok false g1
  | .lor a r, env, g => (evT C a env g).bind fun b g1 => if b = true then .ok true g1 else evT C r env g1
  | .var i, env, g => match env[i]? with
    | some (some w) => asB g w
    | _ => .no
  | .cst d, _, g => asB g (.d d)
  | .cmp o a b, env, g => (evE C a env g).bind fun x g1 => (evE C b env g1).bind fun y g2 => (Out.ofO g2 (peek g2 x)).bind fun x' _ => (Out.ofO g2 (peek g2 y)).bind fun y' _ => (Out.ofO g2 (cmpD o x' y')).bind fun r _ => .ok r g2
  | .chain o p a b c, env, g => (evE C a env g).bind fun x g1 => (evE C b env g1).bind fun y g2 => (Out.ofO g2 (peek g2 x)).bind fun x' _ => (Out.ofO g2 (peek g2 y)).bind fun y' _ => (Out.ofO g2 (cmpD o x' y')).bind fun r _ =>
      if r = true then (evE C c env g2).bind fun z g3 => (Out.ofO g3 (peek g3 y)).bind fun y' _ => (Out.ofO g3 (peek g3 z)).bind fun z' _ => (Out.ofO g3 (cmpD p y' z')).bind fun r _ => .ok r g3
      else .ok false g2
  | .idx a i, env, g => (evE C a env g).bind fun x g1 => (evE C i env g1).bind fun y g2 => (Out.ofO g2 (peek g2 x)).bind fun x' _ => (Out.ofO g2 (peek g2 y)).bind fun y' _ => (Out.ofO g2 (idxD x' y')).bind fun z _ => asB g2 (.d z)
  | .call f es, env, g => (evEs C es env g).bind fun ws g1 => (C f ws g1).bind fun x g2 => asB g2 x
  | .bi b es, env, g => (evEs C es env g).bind fun ws g1 => (Out.ofO g1 (peeks g1 ws)).bind fun xs _ => (biW b g1 xs).bind fun x g2 => asB g2 x
  | .isi a ts, env, g => (evE C a env g).bind fun x g1 => (Out.ofO g1 (peek g1 x)).bind fun x' _ => .ok (ts.any fun t => isTy t x') g1
  | _, _, _ => .no
def evEs (C : Nat → List W → Gs → Out W) : Exs → Env → Gs → Out (List W)
  | .nil, _, g => .ok [] g
  | .cons e r, env, g => (evE C e env g).bind fun w g1 => (evEs C r env g1).bind fun ws g2 => .ok (w :: ws) g2
/-- the parts of an f-string, one behind the other -/
def evJ (C : Nat → List W → Gs → Out W) : Exs → Str → Env → Gs → Out Str
  | .nil, acc, _, g => .ok acc g
  | .cons e r, acc, env, g => (evE C e env g).bind fun w g1 => match w with
    | .d (.str y) => if okS (acc ++ y) = true then evJ C r (acc ++ y) env g1 else .no
    | _ => .no
def evO (C : Nat → List W → Gs → Out W) : Exo → Env → Gs → Out (Option Int)
  | .none, _, g => .ok none g
  | .some e, env, g => (evE C e env g).bind fun w g1 => partI w g1
def evTo (C : Nat → List W → Gs → Out W) : Exo → Env → Gs → Out Bool
  | .none, _, g => .ok true g
  | .some e, env, g => evT C e env g
def evI (C : Nat → List W → Gs → Out W) : Itx → Env → Gs → Out (List D)
  | .seq e, env, g => (evE C e env g).bind fun w g1 => match w with
    | .d x => Out.ofO g1 (seqD x)
    | _ => .no
  | .rng1 a, env, g => (evE C a env g).bind fun x g1 => match x with
    | .d (.int n) => if decide (n < 4611686018427387904) && decide (-4611686018427387904 ≤ n) = true then .ok ((List.range n.toNat).map fun i => .int (0 + (i : Nat))) g1 else .no
    | _ => .no
  | .rng2 a b, env, g => (evE C a env g).bind fun x g1 => (evE C b env g1).bind fun y g2 => match x, y with
    | .d (.int m), .d (.int n) => if decide (n < 4611686018427387904) && decide (-4611686018427387904 ≤ n) && decide (m < 4611686018427387904) && decide (-4611686018427387904 ≤ m) = true then .ok ((List.range (n - m).toNat).map fun i => .int (m + (i : Nat))) g2 else .no
    | _, _ => .no
  | .rng3 a b c, env, g => (evE C a env g).bind fun x g1 => (evE C b env g1).bind fun y g2 => (evE C c env g2).bind fun z g3 => rng3W g3 x y z
  | .zip a b, env, g => (evE C a env g).bind fun x g1 => (evE C b env g1).bind fun y g2 => match x, y with
    | .d (.list xs), .d (.list ys) => .ok ((xs.zip ys).map fun p => .tuple [p.1, p.2]) g2
    | .d (.tuple xs), .d (.tuple ys) => .ok ((xs.zip ys).map fun p => .tuple [p.1, p.2]) g2
    | _, _ => .no
  | .enum a, env, g => (evE C a env g).bind fun x g1 => match x with
    | .d (.list xs) => .ok (xs.mapIdx fun i y => .tuple [.int (i : Nat), y]) g1
    | .d (.tuple xs) => .ok (xs.mapIdx fun i y => .tuple [.int (i : Nat), y]) g1
    | _ => .no
end

/-! ### statements -/
inductive OS where
  | nx (env : Env) (g : Gs)
  | rt (w : W) (g : Gs)
  | exc (e : Exn) (env : Env) (g : Gs)
  | no
def OS.seq : OS → (Env → Gs → OS) → OS
  | .nx env g, f => f env g
  | .rt w g, _ => .rt w g
  | .exc e env g, _ => .exc e env g
  | .no, _ => .no
@[simp] theorem OS.seq_nx (env : Env) (g : Gs) (f : Env → Gs → OS) : (OS.nx env g).seq f = f env g := id rfl
@[simp] theorem OS.seq_rt (w : W) (g : Gs) (f : Env → Gs → OS) : (OS.rt w g).seq f = .rt w g := id rfl
@[simp] theorem OS.seq_exc (e : Exn) (env : Env) (g : Gs) (f : Env → Gs → OS) : (OS.exc e env g).seq f = .exc e env g := id rfl
@[simp] theorem OS.seq_no (f : Env → Gs → OS) : (OS.no).seq f = .no := id rfl
/-- an expression's outcome, used by a statement in env -/
def Out.st {α : Type} (env : Env) : Out α → (α → Gs → OS) → OS
  | .ok a g, f => f a g
  | .exc e g, _ => .exc e env g
  | .no, _ => .no
@[simp] theorem Out.st_ok {α : Type} (env : Env) (a : α) (g : Gs) (f : α → Gs → OS) : (Out.ok a g).st env f = f a g := id rfl
@[simp] theorem Out.st_exc {α : Type} (env : Env) (e : Exn) (g : Gs) (f : α → Gs → OS) : (Out.exc e g : Out α).st env f = .exc e env g := id rfl
@[simp] theorem Out.st_no {α : Type} (env : Env) (f : α → Gs → OS) : (Out.no : Out α).st env f = .no := id rfl
def forGo (bnd : D → Env → Option Env) (body : Env → Gs → OS) : List D → Env → Gs → OS
  | [], env, g => .nx env g
  | x :: xs, env, g => match bnd x env with
    | none => .no
    | some env1 => (body env1 g).seq fun env2 g2 => forGo bnd body xs env2 g2
def whlGo (test : Env → Gs → Out Bool) (body : Env → Gs → OS) : Nat → Env → Gs → OS
  | 0, _, _ => .no
  | n + 1, env, g => (test env g).st env fun b g1 => if b = true then (body env g1).seq fun env2 g2 => whlGo test body n env2 g2 else .nx env g1
/-- turns of a while, at most -/
def turns : Nat := 18446744073709551616
def setAll : List Nat → List W → Env → Option Env
  | [], [], env => some env
  | i :: is, w :: ws, env => if i < env.length then setAll is ws (env.set i (some w)) else none
  | _, _, _ => none
section
variable (C : Nat → List W → Gs → Out W)
mutual
def evS : St → Env → Gs → OS
  | .set t e, env, g => (evE C e env g).st env fun w g1 => match bindT t w env with
    | some env1 => .nx env1 g1
    | none => .no
  | .par is es, env, g => (evEs C es env g).st env fun ws g1 => match setAll is ws env with
    | some env1 => .nx env1 g1
    | none => .no
  | .setix o i e, env, g => (evE C e env g).st env fun w g1 => (give g1 w).st env fun y g2 => (evE C o env g2).st env fun x g3 => (evE C i env g3).st env fun k g4 => match x, k with
    | .ref n, .d (.int j) => (match g4[n]? with
      | some (some (.lst xs)) => (match L2.ixN xs.length j with
        | some m => .nx env (g4.set n (some (.lst (xs.set m y))))
        | none => .no)
      | _ => .no)
    | _, _ => .no
  | .aug i o e, env, g => (match env[i]? with
    | some (some x) => (evE C e env g).st env fun y g1 => (match x, y with
      | .d (.int a), .d (.int b) => (match o with
        | .add => .nx (env.set i (some (.d (.int (a + b))))) g1
        | .sub => .nx (env.set i (some (.d (.int (a - b))))) g1
        | _ => .no)
      | _, _ => .no)
    | _ => .no)
  | .ext i e, env, g => (match env[i]? with
    | some (some (.ref n)) => (evE C e env g).st env fun y g1 => (match y, g1[n]? with
      | .d (.list ys), some (some (.lst xs)) => if decide (xs.length + ys.length ≤ sizeLine) = true then .nx env (g1.set n (some (.lst (xs ++ ys)))) else .no
      | _, _ => .no)
    | _ => .no)
  | .ex e, env, g => (evE C e env g).st env fun _ g1 => .nx env g1
  | .app o e, env, g => (evE C o env g).st env fun x g1 => match x, peek g1 x with
    | .ref n, some (.list _) => (evE C e env g1).st env fun w g2 => (give g2 w).st env fun y g3 => (match g3[n]? with
      | some (some (.lst xs)) => if decide (xs.length < sizeLine) = true then .nx env (g3.set n (some (.lst (xs ++ [y])))) else .no
      | _ => .no)
    | _, _ => .no
  | .ite c a b, env, g => (evT C c env g).st env fun t g1 => if t = true then evSs a env g1 else evSs b env g1
  | .for_ t it b, env, g => (evI C it env g).st env fun xs g1 => forGo (fun x env => bindT t (.d x) env) (fun env g => evSs b env g) xs env g1
  | .whl c b, env, g => whlGo (fun env g => evT C c env g) (fun env g => evSs b env g) turns env g
  | .ret e, env, g => (evE C e env g).st env fun w g1 => .rt w g1
  | .raise c _, env, g => .exc ⟨c, none⟩ env g
  | .doc, env, g => .nx env g
  | .dead, _, _ => .no
  | .frzv i, env, g => (match env[i]? with
    | some (some (.ref n)) => (match g[n]? with
      | some (some (.lst xs)) => .nx (env.set i (some (.d (.list xs)))) (g.set n none)
      | _ => .no)
    | _ => .no)
def evSs : Sts → Env → Gs → OS
  | .nil, env, g => .nx env g
  | .cons s r, env, g => (evS s env g).seq fun env1 g1 => evSs r env1 g1
end
end
/-- one def: how many parameters and slots, whether a new object that it returns stays an object, its body -/
structure Fn where
  pars : Nat
  slots : Nat
  keeps : Bool
  body : Sts
def keepAt (n : Nat) (g : Gs) : W → Out W
  | .ref m => if n ≤ m then (match g[m]? with
    | some (some o) => .ok (.ref n) (g.take n ++ [some o])
    | _ => .no) else .no
  | _ => .no
/-- the callee's end: n objects were there -/
def endF (keeps : Bool) (n : Nat) : OS → Out W
  | .nx _ g => .ok (.d .none) (g.take n)
  | .rt w g => if keeps = true then keepAt n g w else (match w with
    | .ref m => if m < n then .ok (.ref m) (g.take n) else freezeAt n g w
    | .d x => .ok (.d x) (g.take n)
    | .scr _ => .no)
  | .exc e _ g => .exc e (g.take n)
  | .no => .no
def startE (f : Fn) (ws : List W) : Env := ws.map some ++ List.replicate (f.slots - f.pars) none
/-- the def f called, at most k calls deep -/
def run (fs : List Fn) : Nat → Nat → List W → Gs → Out W
  | 0, _, _, _ => .no
  | k + 1, f, ws, g => match fs[f]? with
    | some d => if ws.length = d.pars then endF d.keeps g.length (evSs (run fs k) d.body (startE d ws) g) else .no
    | none => if 1000 ≤ f then (match k with
      | k' + 1 => run fs k' (f - 1000) ws g
      | 0 => .no) else .no
end RF
end
section
set_option Elab.async false
set_option linter.all false
set_option maxRecDepth 100000
/-! How the evaluator's values and objects lie in the abstract heap. -/
namespace RF
open PySem PySem.Spec PyProof.Rows L2

/-- all but a table of code objects stands as before -/
def NT (o : HO) : Prop := ∀ ps, o ≠ .tbl ps
theorem nt_lst {xs : List V} : NT (.lst xs) := fun _ z => nomatch z
theorem nt_tup {xs : List V} : NT (.tup xs) := fun _ z => nomatch z
theorem nt_frz {o : Obj} {u : HO} : NT (.frz o u) := fun _ z => nomatch z
/-- something other than a table of code objects stands there -/
def Oc (H : Hp) (a : Addr) : Prop := ∃ o, H a = some o ∧ NT o
theorem no_oc {H : Hp} {a : Addr} (h : H a = none) : ¬ Oc H a := fun ⟨o, e, _⟩ => by rw [h] at e; cases e
/-- the defs that hold lambdas, in whichever law -/
def lamDefs : List Str := ["law", "_law_rest_right", "_law_all_back", "_law_by_house", "_law_by_person", "_law_questions"]
def hdOk (K : PySem.W.Frag) (n : Str) : Bool := PySem.W.codeHdIn K (He.cT K (n, none)).1 (He.cT K (n, none)).2 && (K.lookup (He.cT K (n, none)).2).isNone
/-- their tables, by the names that their lambdas bear -/
def tabK (K : PySem.W.Frag) : List (Addr × Str) := (lamDefs.filter (hdOk K)).map fun n => ((He.cT K (n, none)).2, n ++ ".<locals>." ++ "<lambda>")
/-- what is kept apart -/
structure Pv where
  priv : Addr → Prop
instance : CoeFun Pv (fun _ => Addr → Prop) := ⟨Pv.priv⟩
theorem tabs_keep {T : List (Addr × Str)} {H H' : Hp} (t : LamX.Tabs T H) (k : ∀ a o, H a = some o → (∀ xs, o ≠ .lst xs) → H' a = some o) : LamX.Tabs T H' := fun p hp => by
  obtain ⟨ps, h1, h2, h3⟩ := t p hp
  refine ⟨ps, k _ _ h1 (fun _ z => nomatch z), h2, fun pos cv hc => ?_⟩
  obtain ⟨c, e1, e2⟩ := h3 pos cv hc
  exact ⟨c, e1, k _ _ e2 fun xs z => by unfold LamX.CodeO at z; cases z⟩
/-- a tuple of the top -/
def KT (K : PySem.W.Frag) (a : Addr) (xs : List V) : Prop :=
  ∃ (o : Obj) (its : Array Value) (n : Nat), K.lookup a = some o ∧ o.cls = .type "tuple" ∧ o.data = .seq its n ∧ its.size ≤ sizeLine ∧ Vals xs its.toList
mutual
inductive Fz (K : PySem.W.Frag) (H : Hp) (M : Addr → Prop) : V → D → Prop
  | non : Fz K H M .non .none
  | bl (b : Bool) : Fz K H M (.bl b) (.bool b)
  | int (i : Int) : Fz K H M (.int i) (.int i)
  | str (x : Str) (h : PyData.strOk x = true) (hl : x.length ≤ sizeLine) : Fz K H M (.str x) (.str x)
  | lst {a : Addr} {xs : List V} {ds : List D} (h : H a = some (.lst xs)) (n : ¬ M a) (r : FzAll K H M xs ds) : Fz K H M (.ref a) (.list ds)
  | tup {a : Addr} {xs : List V} {ds : List D} (h : H a = some (.tup xs)) (n : ¬ M a) (r : FzAll K H M xs ds) : Fz K H M (.ref a) (.tuple ds)
  | tupK {a : Addr} {xs : List V} {ds : List D} (h : KT K a xs) (r : FzAll K H M xs ds) : Fz K H M (.ref a) (.tuple ds)
inductive FzAll (K : PySem.W.Frag) (H : Hp) (M : Addr → Prop) : List V → List D → Prop
  | nil : FzAll K H M [] []
  | cons {v : V} {vs : List V} {d : D} {ds : List D} (h : Fz K H M v d) (r : FzAll K H M vs ds) : FzAll K H M (v :: vs) (d :: ds)
end
section
variable {K : PySem.W.Frag} {H H' : Hp} {M M' : Addr → Prop}
mutual
theorem Fz.ext (k : ∀ a o, H a = some o → ¬ M a → NT o → H' a = some o) (m : ∀ a, M' a → M a ∨ ¬ Oc H a) : ∀ {d : D} {v : V}, Fz K H M v d → Fz K H' M' v d
  | .none, _, h => by cases h; exact .non
  | .bool _, _, h => by cases h; exact .bl _
  | .int _, _, h => by cases h; exact .int _
  | .str _, _, h => by cases h with | str _ h hl => exact .str _ h hl
  | .list ds, _, h => by
    cases h with
    | lst h n r =>
      exact .lst (k _ _ h n nt_lst) (fun z => (m _ z).elim n fun e => e ⟨_, h, nt_lst⟩) (FzAll.ext k m r)
  | .tuple ds, _, h => by
    cases h with
    | tup h n r => exact .tup (k _ _ h n nt_tup) (fun z => (m _ z).elim n fun e => e ⟨_, h, nt_tup⟩) (FzAll.ext k m r)
    | tupK h r => exact .tupK h (FzAll.ext k m r)
  | .dict _, _, h => by cases h
theorem FzAll.ext (k : ∀ a o, H a = some o → ¬ M a → NT o → H' a = some o) (m : ∀ a, M' a → M a ∨ ¬ Oc H a) : ∀ {ds : List D} {vs : List V}, FzAll K H M vs ds → FzAll K H' M' vs ds
  | [], _, h => by cases h; exact .nil
  | d :: ds, _, h => by
    cases h with
    | cons h r => exact .cons (Fz.ext k m h) (FzAll.ext k m r)
end
mutual
theorem Fz.dp : ∀ {d : D} {v : V}, Fz K H M v d → Dp K H v d
  | .none, _, h => by cases h; exact .non
  | .bool _, _, h => by cases h; exact .bl _
  | .int _, _, h => by cases h; exact .int _
  | .str _, _, h => by cases h; exact .str _
  | .list ds, _, h => by
    cases h with
    | lst h n r => exact .lst (.inl (.inl h)) (FzAll.dp r)
  | .tuple ds, _, h => by
    cases h with
    | tup h n r => exact .tup (.inl (.inl h)) (FzAll.dp r)
    | tupK h r => exact .tup (.inr h) (FzAll.dp r)
  | .dict _, _, h => by cases h
theorem FzAll.dp : ∀ {ds : List D} {vs : List V}, FzAll K H M vs ds → DpAll K H vs ds
  | [], _, h => by cases h; exact .nil
  | d :: ds, _, h => by
    cases h with
    | cons h r => exact .cons (Fz.dp h) (FzAll.dp r)
end
mutual
theorem Fz.lay : ∀ {d : D} {v : V}, Fz K H M v d → d.canLay0 = true
  | .none, _, h => by simp [PyData.canLay0]
  | .bool _, _, h => by simp [PyData.canLay0]
  | .int _, _, h => by simp [PyData.canLay0]
  | .str _, _, h => by cases h with | str _ h hl => simp [PyData.canLay0, h]
  | .list ds, _, h => by
    cases h with
    | lst h n r => simp only [PyData.canLay0]; exact FzAll.lay r
  | .tuple ds, _, h => by
    cases h with
    | tup h n r => simp only [PyData.canLay0]; exact FzAll.lay r
    | tupK h r => simp only [PyData.canLay0]; exact FzAll.lay r
  | .dict _, _, h => by cases h
theorem FzAll.lay : ∀ {ds : List D} {vs : List V}, FzAll K H M vs ds → PyData.canLayAll0 ds = true
  | [], _, h => by simp [PyData.canLayAll0]
  | d :: ds, _, h => by
    cases h with
    | cons h r => simp only [PyData.canLayAll0, Bool.and_eq_true]; exact ⟨Fz.lay h, FzAll.lay r⟩
end
theorem FzAll.length : ∀ {ds : List D} {vs : List V}, FzAll K H M vs ds → vs.length = ds.length
  | [], _, h => by cases h; rfl
  | d :: ds, _, h => by
    cases h with
    | cons h r => simp [FzAll.length r]
theorem FzAll.get : ∀ {ds : List D} {vs : List V} {i : Nat} {d : D}, FzAll K H M vs ds → ds[i]? = some d → ∃ v, vs[i]? = some v ∧ Fz K H M v d
  | [], _, _, _, _, e => by simp at e
  | d :: ds, _, 0, _, h, e => by
    cases h with
    | cons h r => simp at e; subst e; exact ⟨_, rfl, h⟩
  | d :: ds, _, i + 1, _, h, e => by
    cases h with
    | cons h r =>
      obtain ⟨v, h1, h2⟩ := FzAll.get (i := i) r (by simpa using e)
      exact ⟨v, by simpa using h1, h2⟩
theorem FzAll.get' : ∀ {ds : List D} {vs : List V} {i : Nat} {v : V}, FzAll K H M vs ds → vs[i]? = some v → ∃ d, ds[i]? = some d ∧ Fz K H M v d := fun {ds vs i v} h e => by
  have hl := h.length
  obtain ⟨hi, _⟩ := List.getElem?_eq_some_iff.mp e
  obtain ⟨v', e', f⟩ := h.get (i := i) (d := ds[i]'(by omega)) (List.getElem?_eq_getElem (by omega))
  rw [e] at e'; cases e'
  exact ⟨_, List.getElem?_eq_getElem (by omega), f⟩
theorem FzAll.append : ∀ {ds es : List D} {vs us : List V}, FzAll K H M vs ds → FzAll K H M us es → FzAll K H M (vs ++ us) (ds ++ es)
  | [], _, _, _, h, k => by cases h; exact k
  | d :: ds, _, _, _, h, k => by
    cases h with
    | cons h r => exact .cons h (FzAll.append r k)
theorem FzAll.drop : ∀ {ds : List D} {vs : List V} (n : Nat), FzAll K H M vs ds → FzAll K H M (vs.drop n) (ds.drop n)
  | _, _, 0, h => h
  | [], _, n + 1, h => by cases h; exact .nil
  | d :: ds, _, n + 1, h => by
    cases h with
    | cons h r => exact FzAll.drop n r
theorem FzAll.take : ∀ {ds : List D} {vs : List V} (n : Nat), FzAll K H M vs ds → FzAll K H M (vs.take n) (ds.take n)
  | _, _, 0, h => .nil
  | [], _, n + 1, h => by cases h; exact .nil
  | d :: ds, _, n + 1, h => by
    cases h with
    | cons h r => exact .cons h (FzAll.take n r)
theorem FzAll.set : ∀ {ds : List D} {vs : List V} {v : V} {d : D} (i : Nat), FzAll K H M vs ds → Fz K H M v d → FzAll K H M (vs.set i v) (ds.set i d)
  | [], _, _, _, _, h, f => by cases h; exact .nil
  | _ :: _, _, _, _, 0, h, f => by cases h with | cons h r => exact .cons f r
  | _ :: _, _, _, _, i + 1, h, f => by cases h with | cons h r => exact .cons h (FzAll.set i r f)
theorem FzAll.rep {ds : List D} {vs : List V} (h : FzAll K H M vs ds) : ∀ k : Nat, FzAll K H M (List.replicate k vs).flatten (List.replicate k ds).flatten
  | 0 => .nil
  | k + 1 => by
    rw [List.replicate_succ, List.replicate_succ, List.flatten_cons, List.flatten_cons]
    exact h.append (h.rep k)
end

/-- the objects of the map, and those that are kept apart -/
def Ms (μ : List (Option Addr)) (P : Pv) (a : Addr) : Prop := some a ∈ μ ∨ P a
def ObR (K : PySem.W.Frag) (H : Hp) (M : Addr → Prop) (a : Addr) : Ob → Prop
  | .lst ds => ∃ xs, H a = some (.lst xs) ∧ FzAll K H M xs ds
structure Rel (K : PySem.W.Frag) (H : Hp) (μ : List (Option Addr)) (P : Pv) (g : Gs) : Prop where
  len : μ.length = g.length
  inj : ∀ (i j : Nat) a, μ[i]? = some (some a) → μ[j]? = some (some a) → i = j
  apart : ∀ a, some a ∈ μ → ¬ P a
  priv : ∀ a, P a → Oc H a
  obj : ∀ (i : Nat) a, μ[i]? = some (some a) → ∃ o, g[i]? = some (some o) ∧ ObR K H (Ms μ P) a o
  dead : ∀ i : Nat, μ[i]? = some none → g[i]? = some none
  tab : LamX.Tabs (tabK K) H
/-- a list of the top -/
def KL (K : PySem.W.Frag) (a : Addr) (xs : List V) : Prop :=
  ∃ (o : Obj) (its : Array Value) (n : Nat), K.lookup a = some o ∧ o.cls = .type "list" ∧ o.dict = none ∧ o.data = .seq its n ∧ its.size ≤ sizeLine ∧ Vals xs its.toList
/-- the script: a list that is known to the object -/
def ScrR (K : PySem.W.Frag) (H : Hp) (M : Addr → Prop) (v : V) (ns : List Int) : Prop := ∃ a, v = .ref a ∧ ((Rd H a (.lst (ns.map V.int)) ∧ ¬ M a) ∨ KL K a (ns.map V.int))
theorem ScrR.ext {K : PySem.W.Frag} {H H' : Hp} {M M' : Addr → Prop} {v : V} {ns : List Int} (k : ∀ a o, H a = some o → ¬ M a → NT o → H' a = some o) (m : ∀ a, M' a → M a ∨ ¬ Oc H a) (h : ScrR K H M v ns) : ScrR K H' M' v ns := by
  obtain ⟨a, h1, h2⟩ := h
  refine ⟨a, h1, h2.imp (fun h => ?_) id⟩
  obtain ⟨h2, h3⟩ := h
  refine ⟨h2.imp (fun e => k a _ e h3 nt_lst) fun ⟨o, e⟩ => ⟨o, k a _ e h3 nt_frz⟩, fun z => (m a z).elim h3 fun z => ?_⟩
  rcases h2 with e | ⟨o, e⟩
  · exact z ⟨_, e, nt_lst⟩
  · exact z ⟨_, e, nt_frz⟩
theorem ScrR.sq {K : PySem.W.Frag} {H : Hp} {M : Addr → Prop} {v : V} {ns : List Int} (h : ScrR K H M v ns) : ∃ a, v = .ref a ∧ SqL K H a (ns.map V.int) := by
  obtain ⟨a, h1, h2⟩ := h
  exact ⟨a, h1, h2.imp (·.1) id⟩
def WR (K : PySem.W.Frag) (H : Hp) (μ : List (Option Addr)) (P : Pv) (v : V) : W → Prop
  | .d x => Fz K H (Ms μ P) v x
  | .scr ns => ScrR K H (Ms μ P) v ns
  | .ref n => n < μ.length ∧ ∀ a, μ[n]? = some (some a) → v = .ref a
def WRs (K : PySem.W.Frag) (H : Hp) (μ : List (Option Addr)) (P : Pv) : List V → List W → Prop := Paired (WR K H μ P)
structure ER (K : PySem.W.Frag) (H : Hp) (μ : List (Option Addr)) (P : Pv) (σ : L2.St) (env : Env) : Prop where
  len : σ.length = env.length
  at_ : ∀ (i : Nat) w, env[i]? = some (some w) → ∃ v, σ[i]? = some (some v) ∧ WR K H μ P v w
structure Ext (H : Hp) (μ : List (Option Addr)) (H' : Hp) (μ' : List (Option Addr)) : Prop where
  keep : ∀ a o, H a = some o → some a ∉ μ → NT o → H' a = some o
  there : ∀ a, Oc H a → Oc H' a
  new : ∀ a, some a ∈ μ' → some a ∈ μ ∨ ¬ Oc H a
  ix : ∀ n : Nat, n < μ.length → n < μ'.length ∧ (μ'[n]? = μ[n]? ∨ μ'[n]? = some none)
section
variable {K : PySem.W.Frag} {H H' H2 : Hp} {μ μ' μ2 : List (Option Addr)} {P : Pv} {g g' : Gs} {σ : L2.St} {env : Env} {v : V} {w : W}
theorem Ext.refl : Ext H μ H μ := ⟨fun _ _ h _ _ => h, fun _ h => h, fun _ h => .inl h, fun _ h => ⟨h, .inl rfl⟩⟩
theorem Ext.out (e : Ext H μ H' μ') {a : Addr} (h : ¬ Oc H' a) : ¬ Oc H a := fun z => h (e.there a z)
theorem Ext.trans (a : Ext H μ H' μ') (b : Ext H' μ' H2 μ2) : Ext H μ H2 μ2 where
  keep := fun x o h m n => b.keep x o (a.keep x o h m n) (fun z => (a.new x z).elim m fun e => e ⟨_, h, n⟩) n
  there := fun x h => b.there x (a.there x h)
  new := fun x h => (b.new x h).elim (fun z => a.new x z) fun z => .inr (a.out z)
  ix := fun n h => by
    obtain ⟨h1, h2⟩ := a.ix n h
    obtain ⟨h3, h4⟩ := b.ix n h1
    refine ⟨h3, ?_⟩
    rcases h4 with h4 | h4
    · rw [h4]; exact h2
    · exact .inr h4
theorem Ext.ms (e : Ext H μ H' μ') : ∀ a, Ms μ' P a → Ms μ P a ∨ ¬ Oc H a := fun a h => by
  rcases h with h | h
  · rcases e.new a h with z | z
    · exact .inl (.inl z)
    · exact .inr z
  · exact .inl (.inr h)
theorem Ext.kp (e : Ext H μ H' μ') : ∀ a o, H a = some o → ¬ Ms μ P a → NT o → H' a = some o := fun a o h m n => e.keep a o h (fun z => m (.inl z)) n
theorem Fz.up (e : Ext H μ H' μ') {d : D} (h : Fz K H (Ms μ P) v d) : Fz K H' (Ms μ' P) v d := h.ext e.kp e.ms
theorem FzAll.up (e : Ext H μ H' μ') {ds : List D} {vs : List V} (h : FzAll K H (Ms μ P) vs ds) : FzAll K H' (Ms μ' P) vs ds := h.ext e.kp e.ms
theorem WR.up (e : Ext H μ H' μ') (h : WR K H μ P v w) : WR K H' μ' P v w := by
  cases w with
  | d x => exact Fz.up e h
  | scr ns => exact ScrR.ext e.kp e.ms h
  | ref n =>
    obtain ⟨h1, h2⟩ := h
    obtain ⟨h3, h4⟩ := e.ix n h1
    refine ⟨h3, fun a q => ?_⟩
    rcases h4 with h4 | h4
    · exact h2 a (h4 ▸ q)
    · rw [h4] at q; cases q
theorem WRs.up (e : Ext H μ H' μ') : ∀ {vs : List V} {ws : List W}, WRs K H μ P vs ws → WRs K H' μ' P vs ws
  | _, _, .nil => .nil
  | _, _, .cons h r => .cons (h.up e) (WRs.up e r)
theorem ER.up (e : Ext H μ H' μ') (h : ER K H μ P σ env) : ER K H' μ' P σ env :=
  ⟨h.len, fun i w q => let ⟨v, h1, h2⟩ := h.at_ i w q; ⟨v, h1, h2.up e⟩⟩
theorem Rel.privUp (r : Rel K H μ P g) (e : Ext H μ H' μ') : ∀ a, P a → Oc H' a := fun a p => e.there a (r.priv a p)
theorem there_of (k : ∀ a o, H a = some o → H' a = some o) : ∀ a, Oc H a → Oc H' a := fun a ⟨o, h, n⟩ => ⟨o, k a o h, n⟩
theorem Rel.oc (r : Rel K H μ P g) {a : Addr} (h : Ms μ P a) : Oc H a := by
  rcases h with m | m
  · obtain ⟨i, hi⟩ := List.mem_iff_getElem?.mp m
    obtain ⟨o, _, ho⟩ := r.obj i a hi
    cases o with
    | lst ds =>
      obtain ⟨xs, e, _⟩ := ho
      exact ⟨_, e, nt_lst⟩
  · exact r.priv a m
theorem Rel.out (r : Rel K H μ P g) {a : Addr} (h : H a = none) : ¬ Ms μ P a := fun m => no_oc h (r.oc m)
theorem Rel.there (r : Rel K H μ P g) {a : Addr} (m : some a ∈ μ) : ∃ xs, H a = some (.lst xs) := by
  obtain ⟨i, hi⟩ := List.mem_iff_getElem?.mp m
  obtain ⟨o, _, ho⟩ := r.obj i a hi
  cases o with
  | lst ds =>
    obtain ⟨xs, e, _⟩ := ho
    exact ⟨xs, e⟩
/-- the same map, a heap in which all that was tracked stands -/
theorem Rel.same (r : Rel K H μ P g) (k : ∀ a o, H a = some o → H' a = some o) : Rel K H' μ P g := by
  have e : Ext H μ H' μ := ⟨fun a o h _ _ => k a o h, there_of k, fun _ h => .inl h, fun _ h => ⟨h, .inl rfl⟩⟩
  refine ⟨r.len, r.inj, r.apart, r.privUp e, fun i a h => ?_, r.dead, r.tab.ext k⟩
  obtain ⟨o, h1, h2⟩ := r.obj i a h
  refine ⟨o, h1, ?_⟩
  cases o with
  | lst ds =>
    obtain ⟨xs, h3, h4⟩ := h2
    exact ⟨xs, k _ _ h3, h4.up e⟩
theorem Ext.same (k : ∀ a o, H a = some o → H' a = some o) : Ext H μ H' μ := ⟨fun a o h _ _ => k a o h, there_of k, fun _ h => .inl h, fun _ h => ⟨h, .inl rfl⟩⟩
/-- a new object laid that is not of the map -/
theorem keeps_upd {p : Addr} {o : HO} (h : H p = none) : ∀ a u, H a = some u → (upd H p o) a = some u := fun a u q => by
  rw [upd_ne (ne_of_none q h)]; exact q
/-- a new list, of the map -/
theorem Rel.push (r : Rel K H μ P g) {p : Addr} (h : H p = none) {xs : List V} {ds : List D} (f : FzAll K H (Ms μ P) xs ds) :
    Rel K (upd H p (.lst xs)) (μ ++ [some p]) P (g ++ [some (.lst ds)]) ∧ Ext H μ (upd H p (.lst xs)) (μ ++ [some p]) ∧ WR K (upd H p (.lst xs)) (μ ++ [some p]) P (.ref p) (.ref g.length) := by
  have np : some p ∉ μ := fun m => r.out h (.inl m)
  have e : Ext H μ (upd H p (.lst xs)) (μ ++ [some p]) := by
    refine ⟨fun a o q m _ => keeps_upd h a o q, there_of (keeps_upd h), fun a m => ?_, fun n hn => ⟨by simp; omega, .inl (List.getElem?_append_left hn)⟩⟩
    rcases List.mem_append.mp m with m | m
    · exact .inl m
    · have : a = p := by simpa using m
      subst this
      exact .inr (no_oc h)
  have at_ : ∀ (i : Nat) a, (μ ++ [some p])[i]? = some (some a) → (i < μ.length ∧ μ[i]? = some (some a)) ∨ (i = μ.length ∧ a = p) := fun i a q => by
    by_cases hi : i < μ.length
    · rw [List.getElem?_append_left hi] at q; exact .inl ⟨hi, q⟩
    · rw [List.getElem?_append_right (by omega)] at q
      obtain ⟨z, q'⟩ := List.getElem?_eq_some_iff.mp q
      have : i - μ.length = 0 := by simp at z; omega
      simp [this] at q'
      exact .inr ⟨by omega, q'.symm⟩
  refine ⟨⟨by simp [r.len], fun i j a q1 q2 => ?_, fun a m => ?_, r.privUp e, fun i a q => ?_, fun i q => ?_, r.tab.ext (keeps_upd h)⟩, e, by simp [r.len], fun a q => ?_⟩
  · rcases at_ i a q1 with ⟨h1, e1⟩ | ⟨h1, e1⟩ <;> rcases at_ j a q2 with ⟨h2, e2⟩ | ⟨h2, e2⟩
    · exact r.inj i j a e1 e2
    · subst e2; exact absurd (List.mem_of_getElem? e1) np
    · subst e1; exact absurd (List.mem_of_getElem? e2) np
    · omega
  · rcases List.mem_append.mp m with m | m
    · exact r.apart a m
    · have : a = p := by simpa using m
      subst this
      exact fun z => no_oc h (r.priv _ z)
  · rcases at_ i a q with ⟨h1, e1⟩ | ⟨h1, e1⟩
    · obtain ⟨o, h2, h3⟩ := r.obj i a e1
      refine ⟨o, by rw [List.getElem?_append_left (by rw [← r.len]; exact h1)]; exact h2, ?_⟩
      cases o with
      | lst es =>
        obtain ⟨ys, h4, h5⟩ := h3
        exact ⟨ys, keeps_upd h _ _ h4, h5.up e⟩
    · subst e1
      refine ⟨.lst ds, ?_, xs, upd_same, f.up e⟩
      rw [h1, r.len, List.getElem?_append_right (Nat.le_refl _)]
      simp
  · by_cases hi : i < μ.length
    · rw [List.getElem?_append_left hi] at q
      rw [List.getElem?_append_left (by rw [← r.len]; exact hi)]
      exact r.dead i q
    · rw [List.getElem?_append_right (by omega)] at q
      obtain ⟨z, q'⟩ := List.getElem?_eq_some_iff.mp q
      have : i - μ.length = 0 := by simp at z; omega
      simp [this] at q'
  · rw [← r.len, List.getElem?_append_right (Nat.le_refl _)] at q
    simp at q
    rw [q]
/-- an object of the map is taken out of it -/
theorem Rel.drop1 (r : Rel K H μ P g) (n : Nat) : Rel K H (μ.set n none) P (g.set n none) ∧ Ext H μ H (μ.set n none) := by
  have sub : ∀ a, some a ∈ μ.set n none → some a ∈ μ := fun a m => by
    obtain ⟨i, hi⟩ := List.mem_iff_getElem?.mp m
    by_cases h : n = i
    · subst h
      by_cases hl : n < μ.length
      · rw [List.getElem?_set_self hl] at hi; cases hi
      · rw [List.getElem?_eq_none (by simp; omega)] at hi; cases hi
    · rw [List.getElem?_set_ne h] at hi
      exact List.mem_of_getElem? hi
  have e : Ext H μ H (μ.set n none) := by
    refine ⟨fun _ _ h _ _ => h, fun _ h => h, fun a m => .inl (sub a m), fun i hi => ⟨by simpa using hi, ?_⟩⟩
    by_cases h : n = i
    · subst h; exact .inr (List.getElem?_set_self hi)
    · exact .inl (List.getElem?_set_ne h)
  have at_ : ∀ (i : Nat) a, (μ.set n none)[i]? = some (some a) → n ≠ i ∧ μ[i]? = some (some a) := fun i a q => by
    by_cases h : n = i
    · subst h
      by_cases hl : n < μ.length
      · rw [List.getElem?_set_self hl] at q; cases q
      · rw [List.getElem?_eq_none (by simp; omega)] at q; cases q
    · rw [List.getElem?_set_ne h] at q
      exact ⟨h, q⟩
  refine ⟨⟨by simp [r.len], fun i j a q1 q2 => r.inj i j a (at_ i a q1).2 (at_ j a q2).2, fun a m => r.apart a (sub a m), r.privUp e, fun i a q => ?_, fun i q => ?_, r.tab⟩, e⟩
  · obtain ⟨h, q⟩ := at_ i a q
    obtain ⟨o, h1, h2⟩ := r.obj i a q
    refine ⟨o, by rw [List.getElem?_set_ne h]; exact h1, ?_⟩
    cases o with
    | lst ds =>
      obtain ⟨xs, h4, h5⟩ := h2
      exact ⟨xs, h4, h5.up e⟩
  · by_cases h : n = i
    · subst h
      have hl : n < g.length := by
        rw [← r.len]
        obtain ⟨z, _⟩ := List.getElem?_eq_some_iff.mp q
        simpa using z
      exact List.getElem?_set_self hl
    · rw [List.getElem?_set_ne h] at q ⊢
      exact r.dead i q
/-- what is younger than n forgotten -/
theorem Rel.cut (r : Rel K H μ P g) (n : Nat) : Rel K H (μ.take n) P (g.take n) := by
  have sub : ∀ a, some a ∈ μ.take n → some a ∈ μ := fun a m => List.mem_of_mem_take m
  have at_ : ∀ (i : Nat) x, (μ.take n)[i]? = some x → i < n ∧ μ[i]? = some x := fun i x q => by
    rw [List.getElem?_take] at q
    split at q
    · exact ⟨by assumption, q⟩
    · cases q
  refine ⟨by simp [r.len], fun i j a q1 q2 => r.inj i j a (at_ i _ q1).2 (at_ j _ q2).2, fun a m => r.apart a (sub a m), r.priv, fun i a q => ?_, fun i q => ?_, r.tab⟩
  · obtain ⟨h, q⟩ := at_ i _ q
    obtain ⟨o, h1, h2⟩ := r.obj i a q
    refine ⟨o, by rw [List.getElem?_take, if_pos h]; exact h1, ?_⟩
    cases o with
    | lst ds =>
      obtain ⟨xs, h4, h5⟩ := h2
      exact ⟨xs, h4, h5.ext (fun _ _ q _ _ => q) fun a m => m.elim (fun z => .inl (.inl (sub a z))) fun z => .inl (.inr z)⟩
  · obtain ⟨h, q⟩ := at_ i _ q
    rw [List.getElem?_take, if_pos h]
    exact r.dead i q
theorem FzAll.cut {n : Nat} {ds : List D} {vs : List V} (h : FzAll K H (Ms μ P) vs ds) : FzAll K H (Ms (μ.take n) P) vs ds :=
  h.ext (fun _ _ q _ _ => q) fun a m => m.elim (fun z => .inl (.inl (List.mem_of_mem_take z))) fun z => .inl (.inr z)
theorem Fz.cut {n : Nat} {d : D} {v : V} (h : Fz K H (Ms μ P) v d) : Fz K H (Ms (μ.take n) P) v d :=
  h.ext (fun _ _ q _ _ => q) fun a m => m.elim (fun z => .inl (.inl (List.mem_of_mem_take z))) fun z => .inl (.inr z)
/-- from the map as it was at first to the one that is cut to its length -/
theorem Ext.cut (e : Ext H μ H' μ') : Ext H μ H' (μ'.take μ.length) where
  keep := e.keep
  there := e.there
  new := fun a m => e.new a (List.mem_of_mem_take m)
  ix := fun n hn => by
    obtain ⟨h1, h2⟩ := e.ix n hn
    refine ⟨by simp; omega, ?_⟩
    rw [List.getElem?_take, if_pos hn]
    exact h2
/-- an object of the map is changed -/
theorem Rel.write (r : Rel K H μ P g) {n : Nat} {a : Addr} (h : μ[n]? = some (some a)) {xs : List V} {ds : List D} (f : FzAll K H (Ms μ P) xs ds) :
    Rel K (upd H a (.lst xs)) μ P (g.set n (some (.lst ds))) ∧ Ext H μ (upd H a (.lst xs)) μ := by
  have ma : some a ∈ μ := List.mem_of_getElem? h
  have e : Ext H μ (upd H a (.lst xs)) μ := by
    refine ⟨fun b o q m _ => ?_, fun b ⟨o, q, nt⟩ => ?_, fun _ m => .inl m, fun _ hn => ⟨hn, .inl rfl⟩⟩
    · rw [upd_ne (fun z => m (by rw [z]; exact ma))]; exact q
    · by_cases hb : b = a
      · subst hb; exact ⟨_, upd_same, nt_lst⟩
      · exact ⟨o, by rw [upd_ne hb]; exact q, nt⟩
  have hn : n < g.length := by
    rw [← r.len]
    obtain ⟨z, _⟩ := List.getElem?_eq_some_iff.mp h
    exact z
  refine ⟨⟨by simp [r.len], r.inj, r.apart, r.privUp e, fun i b q => ?_, fun i q => ?_, tabs_keep r.tab fun b o q nl => by
    rw [upd_ne (fun z => ?_)]; exact q
    obtain ⟨ys, hy⟩ := r.there ma
    rw [z, hy] at q; cases q; exact nl _ rfl⟩, e⟩
  · by_cases hi : n = i
    · subst hi
      rw [h] at q; cases q
      exact ⟨.lst ds, List.getElem?_set_self hn, xs, upd_same, f.up e⟩
    · obtain ⟨o, h1, h2⟩ := r.obj i b q
      refine ⟨o, by rw [List.getElem?_set_ne hi]; exact h1, ?_⟩
      have nb : b ≠ a := fun z => by subst z; exact hi (r.inj n i _ h q)
      cases o with
      | lst es =>
        obtain ⟨ys, h4, h5⟩ := h2
        exact ⟨ys, by rw [upd_ne nb]; exact h4, h5.up e⟩
  · by_cases hi : n = i
    · subst hi
      rw [h] at q; cases q
    · rw [List.getElem?_set_ne hi]
      exact r.dead i q
/-- what a value that is to be read reads as -/
theorem Rel.at (r : Rel K H μ P g) {n : Nat} {xs : List D} (h : g[n]? = some (some (.lst xs))) (hv : WR K H μ P v (.ref n)) : ∃ a vs, v = .ref a ∧ μ[n]? = some (some a) ∧ H a = some (.lst vs) ∧ FzAll K H (Ms μ P) vs xs := by
  obtain ⟨h1, h2⟩ := hv
  cases q : μ[n]? with
  | none => rw [List.getElem?_eq_none_iff] at q; omega
  | some x =>
    cases x with
    | none => rw [r.dead n q] at h; cases h
    | some a =>
      obtain ⟨o, h3, h4⟩ := r.obj n a q
      rw [h] at h3; cases h3
      obtain ⟨vs, h5, h6⟩ := h4
      exact ⟨a, vs, h2 a q, rfl, h5, h6⟩
/-- data to be read: frozen, or a list of the map -/
def Pk (K : PySem.W.Frag) (H : Hp) (M : Addr → Prop) (v : V) (d : D) : Prop := Fz K H M v d ∨ ∃ a vs ds, v = .ref a ∧ H a = some (.lst vs) ∧ FzAll K H M vs ds ∧ d = .list ds
theorem Rel.peek (r : Rel K H μ P g) (hv : WR K H μ P v w) {d : D} (h : RF.peek g w = some d) : Pk K H (Ms μ P) v d := by
  cases w with
  | d x =>
    cases h
    exact .inl hv
  | scr ns => cases h
  | ref n =>
    simp only [RF.peek] at h
    split at h
    · rename_i xs q
      cases h
      obtain ⟨a, vs, h1, h2, h3, h4⟩ := r.at q hv
      exact .inr ⟨a, vs, xs, h1, h3, h4, rfl⟩
    · cases h
theorem Pk.dp {M : Addr → Prop} {d : D} (h : Pk K H M v d) : Dp K H v d := by
  rcases h with h | ⟨a, vs, ds, rfl, h1, h2, rfl⟩
  · exact h.dp
  · exact .lst (.inl (.inl h1)) h2.dp
theorem Pk.lay {M : Addr → Prop} {d : D} (h : Pk K H M v d) : d.canLay0 = true := by
  rcases h with h | ⟨a, vs, ds, rfl, h1, h2, rfl⟩
  · exact h.lay
  · simp only [PyData.canLay0]; exact h2.lay
theorem Pk.list {M : Addr → Prop} {ds : List D} (h : Pk K H M v (.list ds)) : ∃ a vs, v = .ref a ∧ H a = some (.lst vs) ∧ FzAll K H M vs ds := by
  rcases h with h | ⟨a, vs, es, rfl, h1, h2, h3⟩
  · cases h with
    | lst h n r => exact ⟨_, _, rfl, h, r⟩
  · cases h3; exact ⟨a, vs, rfl, h1, h2⟩
theorem Pk.tuple {M : Addr → Prop} {ds : List D} (h : Pk K H M v (.tuple ds)) : ∃ a vs, v = .ref a ∧ SqT K H a vs ∧ FzAll K H M vs ds := by
  rcases h with h | ⟨a, vs, es, rfl, h1, h2, h3⟩
  · cases h with
    | tup h n r => exact ⟨_, _, rfl, .inl (.inl h), r⟩
    | tupK h r => exact ⟨_, _, rfl, .inr h, r⟩
  · cases h3
theorem Pk.flat {M : Addr → Prop} {d : D} (h : Pk K H M v d) (n : ∀ ds, d ≠ .list ds) : Fz K H M v d := by
  rcases h with h | ⟨a, vs, es, rfl, h1, h2, h3⟩
  · exact h
  · exact absurd h3 (n es)
theorem Pk.int {M : Addr → Prop} {i : Int} (h : Pk K H M v (.int i)) : v = .int i := by
  cases h.flat (fun _ z => nomatch z); rfl
theorem Pk.bl {M : Addr → Prop} {i : Bool} (h : Pk K H M v (.bool i)) : v = .bl i := by
  cases h.flat (fun _ z => nomatch z); rfl
theorem Pk.non {M : Addr → Prop} (h : Pk K H M v .none) : v = .non := by
  cases h.flat (fun _ z => nomatch z); rfl
theorem Pk.str {M : Addr → Prop} {i : Str} (h : Pk K H M v (.str i)) : v = .str i ∧ PyData.strOk i = true ∧ i.length ≤ sizeLine := by
  cases h.flat (fun _ z => nomatch z) with | str _ h1 hl => exact ⟨rfl, h1, hl⟩
/-- a value handed over as data -/
theorem Rel.give (r : Rel K H μ P g) (hv : WR K H μ P v w) {x : D} {g' : Gs} (h : RF.give g w = .ok x g') : ∃ μ', Rel K H μ' P g' ∧ Ext H μ H μ' ∧ Fz K H (Ms μ' P) v x := by
  cases w with
  | d y =>
    cases h
    exact ⟨μ, r, .refl, hv⟩
  | scr ns => cases h
  | ref n =>
    simp only [RF.give] at h
    split at h
    · rename_i xs q
      cases h
      obtain ⟨a, vs, h1, h2, h3, h4⟩ := r.at q hv
      obtain ⟨r2, e2⟩ := r.drop1 n
      refine ⟨_, r2, e2, ?_⟩
      subst h1
      refine .lst h3 (fun m => ?_) (h4.up e2)
      rcases m with m | m
      · obtain ⟨i, hi⟩ := List.mem_iff_getElem?.mp m
        by_cases hn : n = i
        · subst hn
          obtain ⟨z, _⟩ := List.getElem?_eq_some_iff.mp h2
          rw [List.getElem?_set_self z] at hi; cases hi
        · rw [List.getElem?_set_ne hn] at hi
          exact hn (r.inj n i _ h2 hi)
      · exact r.apart _ (List.mem_of_getElem? h2) m
    · cases h
theorem Rel.gives : ∀ {ws : List W} {vs : List V} {μ : List (Option Addr)} {g : Gs}, Rel K H μ P g → WRs K H μ P vs ws → ∀ {xs : List D} {g' : Gs}, RF.gives g ws = .ok xs g' → ∃ μ', Rel K H μ' P g' ∧ Ext H μ H μ' ∧ FzAll K H (Ms μ' P) vs xs
  | [], _, μ, g, r, h, xs, g', e => by
    cases h
    cases e
    exact ⟨μ, r, .refl, .nil⟩
  | w :: ws, _, μ, g, r, h, xs, g', e => by
    cases h with
    | cons h t =>
      unfold RF.gives at e
      cases q : RF.give g w with
      | ok x g1 =>
        rw [q] at e
        simp only [Out.bind_ok] at e
        cases q2 : RF.gives g1 ws with
        | ok ys g2 =>
          rw [q2] at e
          cases e
          obtain ⟨μ1, r1, e1, f1⟩ := r.give h q
          obtain ⟨μ2, r2, e2, f2⟩ := Rel.gives r1 (WRs.up e1 t) q2
          exact ⟨μ2, r2, e1.trans e2, .cons (f1.up e2) f2⟩
        | exc _ _ => rw [q2] at e; cases e
        | no => rw [q2] at e; cases e
      | exc _ _ => rw [q] at e; cases e
      | no => rw [q] at e; cases e
end

/-- a new list kept apart -/
abbrev Pd (P : Pv) (D : Addr) : Pv := ⟨fun a => P a ∨ a = D⟩
section
variable {K : PySem.W.Frag} {H H' : Hp} {μ μ' : List (Option Addr)} {P : Pv} {g : Gs} {σ : L2.St} {env : Env} {v : V} {D : Addr} {o : HO}
theorem ms_hide (h : H D = none) : ∀ a, Ms μ (Pd P D) a → Ms μ P a ∨ ¬ Oc H a := fun a m => by
  rcases m with m | m | m
  · exact .inl (.inl m)
  · exact .inl (.inr m)
  · subst m; exact .inr (no_oc h)
theorem Fz.hide (h : H D = none) {d : RF.D} (f : Fz K H (Ms μ P) v d) : Fz K (upd H D o) (Ms μ (Pd P D)) v d := f.ext (fun a u q _ _ => keeps_upd h a u q) (ms_hide h)
theorem FzAll.hide (h : H D = none) {ds : List RF.D} {vs : List V} (f : FzAll K H (Ms μ P) vs ds) : FzAll K (upd H D o) (Ms μ (Pd P D)) vs ds := f.ext (fun a u q _ _ => keeps_upd h a u q) (ms_hide h)
theorem Rel.hide (r : Rel K H μ P g) (h : H D = none) (no : NT o := by exact nt_lst) : Rel K (upd H D o) μ (Pd P D) g := by
  have k := keeps_upd (o := o) h
  refine ⟨r.len, r.inj, fun a m z => ?_, fun a z => ?_, fun i a q => ?_, r.dead, r.tab.ext (keeps_upd h)⟩
  · rcases z with z | z
    · exact r.apart a m z
    · subst z; exact r.out h (.inl m)
  · rcases z with z | z
    · exact there_of k a (r.priv a z)
    · subst z; exact ⟨o, upd_same, no⟩
  · obtain ⟨ob, h1, h2⟩ := r.obj i a q
    refine ⟨ob, h1, ?_⟩
    cases ob with
    | lst ds =>
      obtain ⟨xs, h3, h4⟩ := h2
      exact ⟨xs, k _ _ h3, h4.hide h⟩
theorem ER.hide (r : Rel K H μ P g) (h : H D = none) (e : ER K H μ P σ env) : ER K (upd H D o) μ (Pd P D) σ env := by
  refine ⟨e.len, fun i w q => ?_⟩
  obtain ⟨v, h1, h2⟩ := e.at_ i w q
  refine ⟨v, h1, ?_⟩
  cases w with
  | d x => exact Fz.hide h h2
  | scr ns => exact ScrR.ext (fun a u q _ _ => keeps_upd h a u q) (ms_hide h) h2
  | ref n => exact h2
theorem ms_show : ∀ a, Ms (μ ++ [some D]) P a → Ms μ (Pd P D) a := fun a m => by
  rcases m with m | m
  · rcases List.mem_append.mp m with m | m
    · exact .inl m
    · have : a = D := by simpa using m
      exact .inr (.inr this)
  · exact .inr (.inl m)
theorem FzAll.shown {ds : List RF.D} {vs : List V} (f : FzAll K H (Ms μ (Pd P D)) vs ds) : FzAll K H (Ms (μ ++ [some D]) P) vs ds := f.ext (fun _ _ q _ _ => q) fun a m => .inl (ms_show a m)
/-- the list that was kept apart comes into the map -/
theorem Rel.shown (r : Rel K H μ (Pd P D) g) (nd : ¬ P D) {vs : List V} {ds : List RF.D} (h : H D = some (.lst vs)) (f : FzAll K H (Ms μ (Pd P D)) vs ds) : Rel K H (μ ++ [some D]) P (g ++ [some (.lst ds)]) := by
  have np : some D ∉ μ := fun m => r.apart D m (.inr rfl)
  have at_ : ∀ (i : Nat) a, (μ ++ [some D])[i]? = some (some a) → (i < μ.length ∧ μ[i]? = some (some a)) ∨ (i = μ.length ∧ a = D) := fun i a q => by
    by_cases hi : i < μ.length
    · rw [List.getElem?_append_left hi] at q; exact .inl ⟨hi, q⟩
    · rw [List.getElem?_append_right (by omega)] at q
      obtain ⟨z, q'⟩ := List.getElem?_eq_some_iff.mp q
      have : i - μ.length = 0 := by simp at z; omega
      simp [this] at q'
      exact .inr ⟨by omega, q'.symm⟩
  refine ⟨by simp [r.len], fun i j a q1 q2 => ?_, fun a m z => ?_, fun a z => r.priv a (.inl z), fun i a q => ?_, fun i q => ?_, r.tab⟩
  · rcases at_ i a q1 with ⟨h1, e1⟩ | ⟨h1, e1⟩ <;> rcases at_ j a q2 with ⟨h2, e2⟩ | ⟨h2, e2⟩
    · exact r.inj i j a e1 e2
    · subst e2; exact absurd (List.mem_of_getElem? e1) np
    · subst e1; exact absurd (List.mem_of_getElem? e2) np
    · omega
  · rcases List.mem_append.mp m with m | m
    · exact r.apart a m (.inl z)
    · have : a = D := by simpa using m
      subst this
      exact nd z
  · rcases at_ i a q with ⟨h1, e1⟩ | ⟨h1, e1⟩
    · obtain ⟨o, h2, h3⟩ := r.obj i a e1
      refine ⟨o, by rw [List.getElem?_append_left (by rw [← r.len]; exact h1)]; exact h2, ?_⟩
      cases o with
      | lst es =>
        obtain ⟨ys, h4, h5⟩ := h3
        exact ⟨ys, h4, h5.shown⟩
    · subst e1
      refine ⟨.lst ds, ?_, vs, h, f.shown⟩
      rw [h1, r.len, List.getElem?_append_right (Nat.le_refl _)]
      simp
  · by_cases hi : i < μ.length
    · rw [List.getElem?_append_left hi] at q
      rw [List.getElem?_append_left (by rw [← r.len]; exact hi)]
      exact r.dead i q
    · rw [List.getElem?_append_right (by omega)] at q
      obtain ⟨z, q'⟩ := List.getElem?_eq_some_iff.mp q
      have : i - μ.length = 0 := by simp at z; omega
      simp [this] at q'
/-- the list kept apart is written -/
theorem Rel.writeD (r : Rel K H μ (Pd P D) g) {vs : List V} (h : H D = some (.lst vs)) (ws : List V) : Rel K (upd H D (.lst ws)) μ (Pd P D) g ∧
    ∀ {us : List V} {ds : List RF.D}, FzAll K H (Ms μ (Pd P D)) us ds → FzAll K (upd H D (.lst ws)) (Ms μ (Pd P D)) us ds := by
  have np : some D ∉ μ := fun m => r.apart D m (.inr rfl)
  have kp : ∀ a u, H a = some u → a ≠ D → (upd H D (.lst ws)) a = some u := fun a u q n => by rw [upd_ne n]; exact q
  have th : ∀ a, Oc H a → Oc (upd H D (.lst ws)) a := fun a ⟨o, q, nt⟩ => by
    by_cases hb : a = D
    · subst hb; exact ⟨_, upd_same, nt_lst⟩
    · exact ⟨o, kp a o q hb, nt⟩
  have fz : ∀ {us : List V} {ds : List RF.D}, FzAll K H (Ms μ (Pd P D)) us ds → FzAll K (upd H D (.lst ws)) (Ms μ (Pd P D)) us ds := fun {us ds} f =>
    f.ext (fun a u q n _ => kp a u q fun z => n (.inr (.inr z))) fun a m => .inl m
  refine ⟨⟨r.len, r.inj, r.apart, fun a z => th a (r.priv a z), fun i a q => ?_, r.dead, tabs_keep r.tab fun a u q nl => kp a u q fun z => by rw [z, h] at q; cases q; exact nl _ rfl⟩, fz⟩
  obtain ⟨ob, h1, h2⟩ := r.obj i a q
  refine ⟨ob, h1, ?_⟩
  cases ob with
  | lst ds =>
    obtain ⟨xs, h3, h4⟩ := h2
    exact ⟨xs, kp _ _ h3 fun z => np (by rw [← z]; exact List.mem_of_getElem? q), fz h4⟩
theorem Ext.putD (e : Ext H μ H' μ') (h : H D = none) (o : HO) : Ext H μ (upd H' D o) μ' where
  keep := fun a u q m n => by rw [upd_ne (ne_of_none q h)]; exact e.keep a u q m n
  there := fun a q => by
    by_cases hb : a = D
    · subst hb; exact absurd q (no_oc h)
    · obtain ⟨u, z, nt⟩ := e.there a q
      exact ⟨u, by rw [upd_ne hb]; exact z, nt⟩
  new := e.new
  ix := e.ix
theorem Ext.showD (e : Ext H μ H' μ') (h : H D = none) : Ext H μ H' (μ' ++ [some D]) where
  keep := e.keep
  there := e.there
  new := fun a m => by
    rcases List.mem_append.mp m with m | m
    · exact e.new a m
    · have : a = D := by simpa using m
      subst this
      exact .inr (no_oc h)
  ix := fun n hn => by
    obtain ⟨h1, h2⟩ := e.ix n hn
    refine ⟨by simp; omega, ?_⟩
    rw [List.getElem?_append_left h1]
    exact h2
end
end RF
end
section
set_option Elab.async false
set_option linter.all false
set_option maxRecDepth 100000
/-! The operations by values, over the layer's rules. -/
namespace RF
open PySem PySem.Spec PyProof.Rows L2

/-- what is wanted of an answer -/
def Post (K : PySem.W.Frag) (H : Hp) (μ : List (Option Addr)) (P : Pv) (Q : VK) (w : W) (g : Gs) : Prop :=
  ∀ v H' μ', Rel K H' μ' P g → Ext H μ H' μ' → WR K H' μ' P v w → Q v H'
section
variable {K : PySem.W.Frag} {H H' : Hp} {μ μ' : List (Option Addr)} {P : Pv} {g g' : Gs} {Q : VK} {w : W} {v : V}
/-- a flat answer -/
theorem Post.here (p : Post K H μ P Q w g) (r : Rel K H μ P g) (h : WR K H μ P v w) : Q v H := p v H μ r .refl h
/-- a new tuple -/
theorem Post.tup {xs : List V} {ds : List D} (p : Post K H μ P Q (.d (.tuple ds)) g) (r : Rel K H μ P g) (f : FzAll K H (Ms μ P) xs ds) : ∀ q, H q = none → Q (.ref q) (upd H q (.tup xs)) := fun q hq => by
  have k := keeps_upd (o := .tup xs) hq
  refine p _ _ μ (r.same k) (Ext.same k) (Fz.tup upd_same (r.out hq) (f.up (Ext.same k)))
/-- a new list -/
theorem Post.lst {xs : List V} {ds : List D} {g1 : Gs} {w : W} (p : Post K H μ P Q w g1) (e : newL g ds = .ok w g1) (r : Rel K H μ P g) (f : FzAll K H (Ms μ P) xs ds) : ∀ q, H q = none → Q (.ref q) (upd H q (.lst xs)) := fun q hq => by
  cases e
  obtain ⟨h1, h2, h3⟩ := r.push hq f
  exact p _ _ _ h1 h2 h3
end

def boOp : BO → Operator
  | .add => .Add
  | .sub => .Sub
  | .mul => .Mult
  | .fdiv => .FloorDiv
  | .mod => .Mod
  | .pow => .Pow
/-- an operation f of the evaluator on two values that are read -/
def rOp (K : PySem.W.Frag) (f : Gs → D → D → Out W) : R2 := fun x y H Q => ∃ g μ P x' y' w g', Rel K H μ P g ∧ Pk K H (Ms μ P) x x' ∧ Pk K H (Ms μ P) y y' ∧ f g x' y' = .ok w g' ∧ Post K H μ P Q w g'
section
variable {X : Cx}
theorem decT {p : Prop} [Decidable p] (h : decide p = true) : p := of_decide_eq_true h
theorem strOk_app {x y : Str} (h1 : PyData.strOk x = true) (h2 : PyData.strOk y = true) : PyData.strOk (x ++ y) = true := by
  unfold PyData.strOk at *
  show (x.cps ++ y.cps).all _ = true
  rw [Array.all_append, h1, h2]; rfl
theorem length_app (x y : Str) : (x ++ y).length = x.length + y.length := by
  show (x.cps ++ y.cps).size = _
  rw [Array.size_append]; rfl
theorem iteS {α : Type} {c : Bool} {x : α} {y : α} (h : (if c = true then some x else none) = some y) : c = true ∧ x = y := by
  cases c with
  | true => exact ⟨rfl, Option.some.inj h⟩
  | false => cases h
theorem binW_of {o : BO} {g g' : Gs} {x y : D} {w : W} (h : binW o g x y = .ok w g') : ∃ z, binD o x y = some z ∧ ((∃ zs, z = .list zs ∧ newL g zs = .ok w g') ∨ ((∀ zs, z ≠ .list zs) ∧ w = .d z ∧ g' = g)) := by
  unfold binW at h
  split at h
  · exact ⟨_, by assumption, .inl ⟨_, rfl, h⟩⟩
  · rename_i z hz e
    cases h
    exact ⟨z, e, .inr ⟨hz, rfl, rfl⟩⟩
  · cases h
theorem nil_of {ds : List D} {vs : List V} {K : PySem.W.Frag} {H : Hp} {M : Addr → Prop} (f : FzAll K H M vs ds) (h : vs = []) : ds = [] := by
  subst h
  cases f; rfl
theorem or_add : OpR X (binaryOp .Add) (rOp X.K (binW .add)) := by
  intro pins s σ H x y v u Q I rx ry h
  obtain ⟨g, μ, P, x', y', w, g', r, hx, hy, e, p⟩ := h
  obtain ⟨z, ez, hz⟩ := binW_of e
  cases x' <;> cases y' <;> first
    | (cases ez; done)
    | skip
  case int.int i j =>
    cases ez
    cases hx.int
    cases hy.int
    obtain ⟨zs, q, _⟩ | ⟨_, rfl, rfl⟩ := hz
    · cases q
    · exact op_add pins s σ H _ _ v u Q I rx ry ⟨_, _, rfl, rfl, p.here r (Fz.int _)⟩
  case str.str i j =>
    obtain ⟨hc, rfl⟩ := iteS (show (if _ then some (PyData.str (i ++ j)) else none) = some z from ez)
    obtain ⟨rfl, o1, l1⟩ := hx.str
    obtain ⟨rfl, o2, l2⟩ := hy.str
    obtain ⟨zs, q, _⟩ | ⟨_, rfl, rfl⟩ := hz
    · cases q
    · exact op_add_str pins s σ H _ _ v u Q I rx ry ⟨_, _, rfl, rfl, decT hc, p.here r (Fz.str _ (strOk_app o1 o2) (by rw [length_app]; exact decT hc))⟩
  case tuple.tuple xs ys =>
    obtain ⟨hc, rfl⟩ := iteS (show (if _ then some (PyData.tuple (xs ++ ys)) else none) = some z from ez)
    obtain ⟨a, vs, rfl, ha, fa⟩ := hx.tuple
    obtain ⟨b, us, rfl, hb, fb⟩ := hy.tuple
    obtain ⟨zs, q, _⟩ | ⟨_, rfl, rfl⟩ := hz
    · cases q
    · refine op_catA pins s σ H _ _ v u Q I rx ry ⟨a, b, vs, us, rfl, rfl, ha, hb, by rw [fa.length, fb.length]; exact decT hc, fun z => ?_, fun _ z => ?_, fun _ _ => p.tup r (fa.append fb)⟩
      · cases nil_of fa z
        exact p.here r (hy.flat (fun _ z => nomatch z))
      · cases nil_of fb z
        rw [List.append_nil] at p; exact p.here r (hx.flat (fun _ z => nomatch z))
  case list.list xs ys =>
    obtain ⟨hc, rfl⟩ := iteS (show (if _ then some (PyData.list (xs ++ ys)) else none) = some z from ez)
    obtain ⟨a, vs, rfl, ha, fa⟩ := hx.list
    obtain ⟨b, us, rfl, hb, fb⟩ := hy.list
    obtain ⟨zs, q, hn⟩ | ⟨hz, _⟩ := hz
    · cases q
      exact op_cat pins s σ H _ _ v u Q I rx ry ⟨a, b, vs, us, rfl, rfl, ha, hb, by rw [fa.length, fb.length]; exact decT hc, p.lst hn r (fa.append fb)⟩
    · exact absurd rfl (hz _)
theorem or_sub : OpR X (binaryOp .Sub) (rOp X.K (binW .sub)) := by
  intro pins s σ H x y v u Q I rx ry h
  obtain ⟨g, μ, P, x', y', w, g', r, hx, hy, e, p⟩ := h
  obtain ⟨z, ez, hz⟩ := binW_of e
  cases x' <;> cases y' <;> first
    | (cases ez; done)
    | skip
  case int.int i j =>
    cases ez
    cases hx.int
    cases hy.int
    obtain ⟨zs, q, _⟩ | ⟨_, rfl, rfl⟩ := hz
    · cases q
    · exact op_sub pins s σ H _ _ v u Q I rx ry ⟨_, _, rfl, rfl, p.here r (Fz.int _)⟩
theorem or_mul : OpR X (binaryOp .Mult) (rOp X.K (binW .mul)) := by
  intro pins s σ H x y v u Q I rx ry h
  obtain ⟨g, μ, P, x', y', w, g', r, hx, hy, e, p⟩ := h
  obtain ⟨z, ez, hz⟩ := binW_of e
  cases x' <;> cases y' <;> first
    | (cases ez; done)
    | skip
  case int.int i j =>
    obtain ⟨hc, rfl⟩ := iteS (show (if _ then some (PyData.int (i * j)) else none) = some z from ez)
    cases hx.int
    cases hy.int
    obtain ⟨zs, q, _⟩ | ⟨_, rfl, rfl⟩ := hz
    · cases q
    · exact op_mulW pins s σ H _ _ v u Q I rx ry ⟨_, _, rfl, rfl, (decT (show decide (i.natAbs.log2 + j.natAbs.log2 < 1000000) = true from hc) : i.natAbs.log2 + j.natAbs.log2 < 1000000), p.here r (Fz.int _)⟩
  case tuple.int xs k =>
    obtain ⟨hc, rfl⟩ := iteS (show (if _ then some (PyData.tuple (List.replicate k.toNat xs).flatten) else none) = some z from ez)
    obtain ⟨a, vs, rfl, ha, fa⟩ := hx.tuple
    cases hy.int
    obtain ⟨zs, q, _⟩ | ⟨_, rfl, rfl⟩ := hz
    · cases q
    · simp only [repTOk, Bool.and_eq_true, decide_eq_true_eq, Bool.not_eq_true'] at hc
      obtain ⟨⟨⟨h1, h2⟩, h3⟩, h4⟩ := hc
      refine op_repT pins s σ H _ _ v u Q I rx ry ⟨a, _, vs, rfl, rfl, ha, fun z => ?_, h1, h2, by rw [fa.length]; exact h3, p.tup r (fa.rep _)⟩
      cases nil_of fa z
      cases h4
  case list.int xs k =>
    obtain ⟨hc, rfl⟩ := iteS (show (if _ then some (PyData.list (List.replicate k.toNat xs).flatten) else none) = some z from ez)
    obtain ⟨a, vs, rfl, ha, fa⟩ := hx.list
    cases hy.int
    obtain ⟨zs, q, hn⟩ | ⟨hz, _⟩ := hz
    · cases q
      simp only [repOk, Bool.and_eq_true, decide_eq_true_eq] at hc
      obtain ⟨⟨h1, h2⟩, h3⟩ := hc
      exact op_rep pins s σ H _ _ v u Q I rx ry ⟨a, _, vs, rfl, rfl, ha, by omega, by omega, by rw [fa.length]; exact h3, p.lst hn r (fa.rep _)⟩
    · exact absurd rfl (hz _)
theorem or_fdiv : OpR X (binaryOp .FloorDiv) (rOp X.K (binW .fdiv)) := by
  intro pins s σ H x y v u Q I rx ry h
  obtain ⟨g, μ, P, x', y', w, g', r, hx, hy, e, p⟩ := h
  obtain ⟨z, ez, hz⟩ := binW_of e
  cases x' <;> cases y' <;> first
    | (cases ez; done)
    | skip
  case int.int i j =>
    obtain ⟨hc, rfl⟩ := iteS (show (if _ then some (PyData.int (i / j)) else none) = some z from ez)
    cases hx.int
    cases hy.int
    obtain ⟨zs, q, _⟩ | ⟨_, rfl, rfl⟩ := hz
    · cases q
    · simp only [divOk, Bool.and_eq_true, decide_eq_true_eq] at hc
      exact op_fdivW pins s σ H _ _ v u Q I rx ry ⟨_, _, rfl, rfl, hc, p.here r (Fz.int _)⟩
theorem or_mod : OpR X (binaryOp .Mod) (rOp X.K (binW .mod)) := by
  intro pins s σ H x y v u Q I rx ry h
  obtain ⟨g, μ, P, x', y', w, g', r, hx, hy, e, p⟩ := h
  obtain ⟨z, ez, hz⟩ := binW_of e
  cases x' <;> cases y' <;> first
    | (cases ez; done)
    | skip
  case int.int i j =>
    obtain ⟨hc, rfl⟩ := iteS (show (if _ then some (PyData.int (i % j)) else none) = some z from ez)
    cases hx.int
    cases hy.int
    obtain ⟨zs, q, _⟩ | ⟨_, rfl, rfl⟩ := hz
    · cases q
    · exact op_mod pins s σ H _ _ v u Q I rx ry ⟨_, _, rfl, rfl, decT hc, p.here r (Fz.int _)⟩
theorem or_pow : OpR X (binaryOp .Pow) (rOp X.K (binW .pow)) := by
  intro pins s σ H x y v u Q I rx ry h
  obtain ⟨g, μ, P, x', y', w, g', r, hx, hy, e, p⟩ := h
  obtain ⟨z, ez, hz⟩ := binW_of e
  cases x' <;> cases y' <;> first
    | (cases ez; done)
    | skip
  case int.int i j =>
    obtain ⟨hc, rfl⟩ := iteS (show (if _ then some (PyData.int (i ^ j.toNat)) else none) = some z from ez)
    cases hx.int
    cases hy.int
    obtain ⟨zs, q, _⟩ | ⟨_, rfl, rfl⟩ := hz
    · cases q
    · simp only [powOk, Bool.and_eq_true, decide_eq_true_eq] at hc
      exact op_pow pins s σ H _ _ v u Q I rx ry ⟨_, _, rfl, rfl, ⟨hc.1.1, hc.1.2, hc.2⟩, p.here r (Fz.int _)⟩
theorem or_bin (o : BO) : OpR X (binaryOp (boOp o)) (rOp X.K (binW o)) := by
  cases o with
  | add => exact or_add
  | sub => exact or_sub
  | mul => exact or_mul
  | fdiv => exact or_fdiv
  | mod => exact or_mod
  | pow => exact or_pow

/-! ### comparisons -/
def coOp : CO → CmpOp
  | .eq => .Eq
  | .ne => .NotEq
  | .lt => .Lt
  | .le => .LtE
  | .gt => .Gt
  | .ge => .GtE
  | .isin => .In
  | .notin => .NotIn
  | .is => .Is
  | .isnot => .IsNot
/-- a comparison of the evaluator on two values that are read -/
def rCo (K : PySem.W.Frag) (o : CO) : R2 := fun x y H Q => ∃ M x' y' b, Pk K H M x x' ∧ Pk K H M y y' ∧ cmpD o x' y' = some b ∧ Q (.bl b) H
theorem pk_reads {pins : List (Addr × Obj)} {σ : L2.St} {H : Hp} {s : Shared} {M : Addr → Prop} {x : V} {u : Value} {d : D} (I : Inv X pins σ H s) (h : Pk X.K H M x d) (r : RelV x u) : ∃ as, Reads s.heap u d as := Dp.reads I d x u h.dp r
theorem pk_cases {K : PySem.W.Frag} {H : Hp} {M : Addr → Prop} {x : V} {d : D} (h : Pk K H M x d) : (d = .none ∧ x = .non) ∨ (∃ b, d = .bool b ∧ x = .bl b) ∨ (∃ i, d = .int i ∧ x = .int i) ∨ (∃ z, d = .str z ∧ x = .str z) ∨ (∃ a ds, (d = .list ds ∨ d = .tuple ds) ∧ x = .ref a) := by
  cases d with
  | none => exact .inl ⟨rfl, h.non⟩
  | bool b => exact .inr (.inl ⟨b, rfl, h.bl⟩)
  | int i => exact .inr (.inr (.inl ⟨i, rfl, h.int⟩))
  | str z => exact .inr (.inr (.inr (.inl ⟨z, rfl, h.str.1⟩)))
  | list ds => obtain ⟨a, vs, e, _⟩ := h.list; exact .inr (.inr (.inr (.inr ⟨a, ds, .inl rfl, e⟩)))
  | tuple ds => obtain ⟨a, vs, e, _⟩ := h.tuple; exact .inr (.inr (.inr (.inr ⟨a, ds, .inr rfl, e⟩)))
  | dict kvs => cases h.flat (fun _ z => nomatch z)
theorem or_eqne (hu : X.A.units + 65 < cLine) : OpR X (compareOp .Eq) (rCo X.K .eq) ∧ OpR X (compareOp .NotEq) (rCo X.K .ne) := by
  refine ⟨?_, ?_⟩
  all_goals
    intro pins s σ H x y v u Q I rx ry h
    obtain ⟨M, x', y', b, hx, hy, e, p⟩ := h
    unfold cmpD at e
    obtain ⟨hc, rfl⟩ := iteS e
    obtain ⟨as, r1⟩ := pk_reads I hx rx
    obtain ⟨bs, r2⟩ := pk_reads I hy ry
    have hd : min x'.depth y'.depth ≤ 64 := decT hc
  · exact SeqAt.compareEq_reads r1 r2 hx.lay hy.lay (by omega) ⟨.bl _, H, I, rfl, p⟩
  · exact SeqAt.compareNe_reads r1 r2 hx.lay hy.lay (by omega) ⟨.bl _, H, I, rfl, p⟩
theorem or_ord : OpR X (compareOp .Lt) (rCo X.K .lt) ∧ OpR X (compareOp .LtE) (rCo X.K .le) ∧ OpR X (compareOp .Gt) (rCo X.K .gt) ∧ OpR X (compareOp .GtE) (rCo X.K .ge) := by
  refine ⟨?_, ?_, ?_, ?_⟩
  all_goals
    intro pins s σ H x y v u Q I rx ry h
    obtain ⟨M, x', y', b, hx, hy, e, p⟩ := h
    cases x' <;> cases y' <;> first
      | (cases e; done)
      | skip
    cases e
    cases hx.int
    cases hy.int
  · exact op_lt pins s σ H _ _ v u Q I rx ry ⟨_, _, rfl, rfl, p⟩
  · exact op_le pins s σ H _ _ v u Q I rx ry ⟨_, _, rfl, rfl, p⟩
  · exact op_gt pins s σ H _ _ v u Q I rx ry ⟨_, _, rfl, rfl, p⟩
  · exact op_ge pins s σ H _ _ v u Q I rx ry ⟨_, _, rfl, rfl, p⟩
theorem inAll_of {x : D} {ys : List D} {b : Bool} (h : inAll x ys = some b) : x.depth ≤ 64 ∧ (ys.any fun y => PyData.eqv y x) = b := by
  unfold inAll at h
  obtain ⟨hc, e⟩ := iteS h
  exact ⟨decT hc, e⟩
theorem or_in (hu : X.A.units + 66 < cLine) : OpR X (compareOp .In) (rCo X.K .isin) := by
  intro pins s σ H x y v u Q I rx ry h
  obtain ⟨M, x', y', b, hx, hy, e, p⟩ := h
  have e : inD x' y' = some b := e
  cases y' with
  | tuple ys =>
    have e : inAll x' ys = some b := by cases x' <;> exact e
    obtain ⟨hd, rfl⟩ := inAll_of e
    obtain ⟨as, r1⟩ := pk_reads I hx rx
    obtain ⟨bs, r2⟩ := pk_reads I hy ry
    have l2 := hy.lay
    simp only [PyData.canLay0] at l2
    exact SeqAt.in_tuple_reads r2 r1 l2 hx.lay (by omega) ⟨.bl _, H, I, rfl, p⟩
  | list ys =>
    have e : inAll x' ys = some b := by cases x' <;> exact e
    obtain ⟨hd, rfl⟩ := inAll_of e
    obtain ⟨as, r1⟩ := pk_reads I hx rx
    obtain ⟨bs, r2⟩ := pk_reads I hy ry
    have l2 := hy.lay
    simp only [PyData.canLay0] at l2
    exact SeqAt.in_list_reads r2 r1 l2 hx.lay (by omega) ⟨.bl _, H, I, rfl, p⟩
  | str z =>
    cases x' <;> first
      | (cases e; done)
      | skip
    cases e
    cases hx.str.1
    cases hy.str.1
    exact op_in_str pins s σ H _ _ v u Q I rx ry ⟨_, _, rfl, rfl, p⟩
  | _ => cases x' <;> cases e
theorem or_notin (hu : X.A.units + 66 < cLine) : OpR X (compareOp .NotIn) (rCo X.K .notin) := by
  intro pins s σ H x y v u Q I rx ry h
  obtain ⟨M, x', y', b, hx, hy, e, p⟩ := h
  have e : (inD x' y').map (!·) = some b := e
  obtain ⟨c, e', rfl⟩ := Option.map_eq_some_iff.mp e
  clear e
  have e := e'
  clear e'
  cases y' with
  | tuple ys =>
    have e : inAll x' ys = some c := by cases x' <;> exact e
    obtain ⟨hd, rfl⟩ := inAll_of e
    obtain ⟨as, r1⟩ := pk_reads I hx rx
    obtain ⟨bs, r2⟩ := pk_reads I hy ry
    have l2 := hy.lay
    simp only [PyData.canLay0] at l2
    exact SeqAt.notIn_tuple_reads r2 r1 l2 hx.lay (by omega) ⟨.bl _, H, I, rfl, p⟩
  | list ys =>
    have e : inAll x' ys = some c := by cases x' <;> exact e
    obtain ⟨hd, rfl⟩ := inAll_of e
    obtain ⟨as, r1⟩ := pk_reads I hx rx
    obtain ⟨bs, r2⟩ := pk_reads I hy ry
    have l2 := hy.lay
    simp only [PyData.canLay0] at l2
    exact SeqAt.notIn_list_reads r2 r1 l2 hx.lay (by omega) ⟨.bl _, H, I, rfl, p⟩
  | str z =>
    cases x' <;> first
      | (cases e; done)
      | skip
    cases e
    cases hx.str.1
    cases hy.str.1
    exact op_notin_str pins s σ H _ _ v u Q I rx ry ⟨_, _, rfl, rfl, p⟩
  | _ => cases x' <;> cases e
end
end RF
end
section
set_option Elab.async false
set_option linter.all false
set_option maxRecDepth 100000
/-! Readings of expressions by the evaluator. -/
namespace RF
open PySem PySem.Spec PyProof.Rows L2

/-! ### outcomes -/
def Gd {α : Type} (o : Out α) (p : α → Gs → Prop) (r : Exn → Gs → Prop) : Prop := match o with
  | .ok a g => p a g
  | .exc e g => r e g
  | .no => False
theorem Gd.bind {α β : Type} {o : Out α} {f : α → Gs → Out β} {p : β → Gs → Prop} {r : Exn → Gs → Prop} (h : Gd (o.bind f) p r) : Gd o (fun a g => Gd (f a g) p r) r := by
  cases o <;> exact h
theorem Gd.mono {α : Type} {o : Out α} {p p' : α → Gs → Prop} {r r' : Exn → Gs → Prop} (h : Gd o p r) (hp : ∀ a g, p a g → p' a g) (hr : ∀ e g, r e g → r' e g) : Gd o p' r' := by
  cases o with
  | ok a g => exact hp a g h
  | exc e g => exact hr e g h
  | no => exact h
theorem Gd.ofO {α β : Type} {o : Option α} {g : Gs} {f : α → Gs → Out β} {p : β → Gs → Prop} {r : Exn → Gs → Prop} (h : Gd ((Out.ofO g o).bind f) p r) : ∃ a, o = some a ∧ Gd (f a g) p r := by
  cases o with
  | none => exact h.elim
  | some a => exact ⟨a, rfl, h⟩

/-- an exception as it lies -/
def ExR (K : PySem.W.Frag) (H : Hp) (e : Exn) (cls : Value) (d : Option Addr) : Prop := e.arg = none ∧ cls = .ref (He.ga K e.cls) ∧ d = none ∧ e.cls ∈ excN
def Rx (K : PySem.W.Frag) (Wx : WX) (σ : L2.St) (H : Hp) (μ : List (Option Addr)) (P : Pv) (e : Exn) (g : Gs) : Prop :=
  ∀ cls d H' μ', Rel K H' μ' P g → Ext H μ H' μ' → ExR K H' e cls d → Wx cls d σ H'
def PostT (K : PySem.W.Frag) (H : Hp) (μ : List (Option Addr)) (P : Pv) (Q : Bool → Hp → Prop) (b : Bool) (g : Gs) : Prop :=
  ∀ H' μ', Rel K H' μ' P g → Ext H μ H' μ' → Q b H'
def PostA (K : PySem.W.Frag) (H : Hp) (μ : List (Option Addr)) (P : Pv) (Q : List V → Hp → Prop) (ws : List W) (g : Gs) : Prop :=
  ∀ vs H' μ', Rel K H' μ' P g → Ext H μ H' μ' → WRs K H' μ' P vs ws → Q vs H'
def PostO (K : PySem.W.Frag) (H : Hp) (μ : List (Option Addr)) (P : Pv) (Q : Option Int → Hp → Prop) (ws : Option Int) (g : Gs) : Prop :=
  ∀ H' μ', Rel K H' μ' P g → Ext H μ H' μ' → Q ws H'
section
variable {K : PySem.W.Frag} {Wx : WX} {σ : L2.St} {H H1 : Hp} {μ μ1 : List (Option Addr)} {P : Pv} {g : Gs}
theorem Rx.up (e : Ext H μ H1 μ1) {x : Exn} (h : Rx K Wx σ H μ P x g) : Rx K Wx σ H1 μ1 P x g := fun cls d H' μ' r e' q => h cls d H' μ' r (e.trans e') q
theorem Post.up (e : Ext H μ H1 μ1) {Q : VK} {w : W} (h : Post K H μ P Q w g) : Post K H1 μ1 P Q w g := fun v H' μ' r e' q => h v H' μ' r (e.trans e') q
theorem PostT.up (e : Ext H μ H1 μ1) {Q : Bool → Hp → Prop} {w : Bool} (h : PostT K H μ P Q w g) : PostT K H1 μ1 P Q w g := fun H' μ' r e' => h H' μ' r (e.trans e')
theorem PostA.up (e : Ext H μ H1 μ1) {Q : List V → Hp → Prop} {w : List W} (h : PostA K H μ P Q w g) : PostA K H1 μ1 P Q w g := fun v H' μ' r e' q => h v H' μ' r (e.trans e') q
end

/-! ### readings -/
def tE (K : PySem.W.Frag) (Wx : WX) (f : Env → Gs → Out W) : TE := fun σ H Q => ∃ env g μ P, Rel K H μ P g ∧ ER K H μ P σ env ∧ Gd (f env g) (Post K H μ P Q) (Rx K Wx σ H μ P)
def tT (K : PySem.W.Frag) (Wx : WX) (f : Env → Gs → Out Bool) : TT := fun σ H Q => ∃ env g μ P, Rel K H μ P g ∧ ER K H μ P σ env ∧ Gd (f env g) (PostT K H μ P Q) (Rx K Wx σ H μ P)
def tA (K : PySem.W.Frag) (Wx : WX) (f : Env → Gs → Out (List W)) : TA := fun σ H Q => ∃ env g μ P, Rel K H μ P g ∧ ER K H μ P σ env ∧ Gd (f env g) (PostA K H μ P Q) (Rx K Wx σ H μ P)
def tO (K : PySem.W.Frag) (Wx : WX) (f : Env → Gs → Out (Option Int)) : TO := fun σ H Q => ∃ env g μ P, Rel K H μ P g ∧ ER K H μ P σ env ∧ Gd (f env g) (PostO K H μ P Q) (Rx K Wx σ H μ P)

theorem _root_.L2.PE.imp {X : Cx} {e : Expr} {t t' : TE} (h : PE X e t) (k : ∀ σ H Q, t' σ H Q → t σ H Q) : PE X e t' := ⟨fun pins s σ H Q I q => h.run pins s σ H Q I (k σ H Q q)⟩
theorem _root_.L2.PT.imp {X : Cx} {e : Expr} {t t' : TT} (h : PT X e t) (k : ∀ σ H Q, t' σ H Q → t σ H Q) : PT X e t' := ⟨fun pins s σ H Q I q => h.run pins s σ H Q I (k σ H Q q)⟩
theorem _root_.L2.PW.imp {X : Cx} {e : Expr} {t t' : TT} (h : PW X e t) (k : ∀ σ H Q, t' σ H Q → t σ H Q) : PW X e t' := ⟨fun wh pins s σ H Q I q => h.run wh pins s σ H Q I (k σ H Q q)⟩
theorem _root_.L2.PA.imp {X : Cx} {e : List Expr} {t t' : TA} (h : PA X e t) (k : ∀ σ H Q, t' σ H Q → t σ H Q) : PA X e t' := ⟨fun pos pins s σ H Q I q => h.run pos pins s σ H Q I (k σ H Q q)⟩
theorem _root_.L2.PO.imp {X : Cx} {e : Option Expr} {t t' : TO} (h : PO X e t) (k : ∀ σ H Q, t' σ H Q → t σ H Q) : PO X e t' := ⟨fun pins s σ H Q I q => h.run pins s σ H Q I (k σ H Q q)⟩
theorem _root_.L2.PI.imp {X : Cx} {tg e : Expr} {t t' : TI} (h : PI X tg e t) (k : ∀ σ H Q, t' σ H Q → t σ H Q) : PI X tg e t' := ⟨fun pins s σ H Q I q => h.run pins s σ H Q I (k σ H Q q)⟩
theorem _root_.L2.PS.imp {X : Cx} {e : Stmt} {t t' : TS} (h : PS X e t) (k : ∀ D σ H, t' D σ H → t D σ H) : PS X e t' := ⟨fun pins s σ H D I q => h.run pins s σ H D I (k D σ H q)⟩
theorem _root_.L2.PSs.imp {X : Cx} {e : List Stmt} {t t' : TS} (h : PSs X e t) (k : ∀ D σ H, t' D σ H → t D σ H) : PSs X e t' := ⟨fun pins s σ H D I q => h.run pins s σ H D I (k D σ H q)⟩
theorem _root_.L2.PG.imp {X : Cx} {e : Expr} {t t' : TG} (h : PG X e t) (k : ∀ v σ H Q, t' v σ H Q → t v σ H Q) : PG X e t' := ⟨fun pins s σ H v u Q I r q => h.run pins s σ H v u Q I r (k v σ H Q q)⟩

section
variable {K : PySem.W.Frag} {Wx : WX} {σ : L2.St} {H : Hp} {μ : List (Option Addr)} {P : Pv} {g : Gs} {env : Env}
/-- one part of an expression is read, then the rest -/
theorem step1 {α : Type} {f : Env → Gs → Out W} {k : W → Gs → Out α} {p : Hp → List (Option Addr) → α → Gs → Prop} {Q : VK} (r : Rel K H μ P g) (er : ER K H μ P σ env)
    (up : ∀ {H1 μ1 a g1}, Ext H μ H1 μ1 → p H μ a g1 → p H1 μ1 a g1) (h : Gd ((f env g).bind k) (p H μ) (Rx K Wx σ H μ P))
    (q : ∀ w g1 v H1 μ1, Rel K H1 μ1 P g1 → Ext H μ H1 μ1 → ER K H1 μ1 P σ env → WR K H1 μ1 P v w → Gd (k w g1) (p H1 μ1) (Rx K Wx σ H1 μ1 P) → Q v H1) : tE K Wx f σ H Q :=
  ⟨env, g, μ, P, r, er, h.bind.mono (fun w g1 z v H1 μ1 r1 e1 w1 => q w g1 v H1 μ1 r1 e1 (er.up e1) w1 (z.mono (fun _ _ y => up e1 y) fun _ _ y => y.up e1)) fun _ _ z => z⟩
theorem stepT {α : Type} {f : Env → Gs → Out Bool} {k : Bool → Gs → Out α} {p : Hp → List (Option Addr) → α → Gs → Prop} {Q : Bool → Hp → Prop} (r : Rel K H μ P g) (er : ER K H μ P σ env)
    (up : ∀ {H1 μ1 a g1}, Ext H μ H1 μ1 → p H μ a g1 → p H1 μ1 a g1) (h : Gd ((f env g).bind k) (p H μ) (Rx K Wx σ H μ P))
    (q : ∀ w g1 H1 μ1, Rel K H1 μ1 P g1 → Ext H μ H1 μ1 → ER K H1 μ1 P σ env → Gd (k w g1) (p H1 μ1) (Rx K Wx σ H1 μ1 P) → Q w H1) : tT K Wx f σ H Q :=
  ⟨env, g, μ, P, r, er, h.bind.mono (fun w g1 z H1 μ1 r1 e1 => q w g1 H1 μ1 r1 e1 (er.up e1) (z.mono (fun _ _ y => up e1 y) fun _ _ y => y.up e1)) fun _ _ z => z⟩
theorem stepA {α : Type} {f : Env → Gs → Out (List W)} {k : List W → Gs → Out α} {p : Hp → List (Option Addr) → α → Gs → Prop} {Q : List V → Hp → Prop} (r : Rel K H μ P g) (er : ER K H μ P σ env)
    (up : ∀ {H1 μ1 a g1}, Ext H μ H1 μ1 → p H μ a g1 → p H1 μ1 a g1) (h : Gd ((f env g).bind k) (p H μ) (Rx K Wx σ H μ P))
    (q : ∀ ws g1 vs H1 μ1, Rel K H1 μ1 P g1 → Ext H μ H1 μ1 → ER K H1 μ1 P σ env → WRs K H1 μ1 P vs ws → Gd (k ws g1) (p H1 μ1) (Rx K Wx σ H1 μ1 P) → Q vs H1) : tA K Wx f σ H Q :=
  ⟨env, g, μ, P, r, er, h.bind.mono (fun w g1 z v H1 μ1 r1 e1 w1 => q w g1 v H1 μ1 r1 e1 (er.up e1) w1 (z.mono (fun _ _ y => up e1 y) fun _ _ y => y.up e1)) fun _ _ z => z⟩
end

variable {X : Cx} {Wx : WX}
/-! ### names and constants -/
theorem se_var {i : Nat} {x : Str} {pos : Pos} {C : Nat → List W → Gs → Out W} (h : PE X (.Name x pos) (tVar i)) : PE X (.Name x pos) (tE X.K Wx (evE C (.var i))) := by
  refine h.imp fun σ H Q ⟨env, g, μ, P, r, er, q⟩ => ?_
  simp only [evE] at q
  split at q
  · rename_i w e
    obtain ⟨v, h1, h2⟩ := er.at_ i w e
    exact ⟨v, h1, Post.here q r h2⟩
  · exact q.elim
theorem se_flat {e : Expr} {v : V} {d : D} {C : Nat → List W → Gs → Out W} (h : PE X e (tC v)) (f : ∀ H M, Fz X.K H M v d) {ex : Ex} (hx : ∀ env g, evE C ex env g = .ok (.d d) g) : PE X e (tE X.K Wx (evE C ex)) := by
  refine h.imp fun σ H Q ⟨env, g, μ, P, r, er, q⟩ => ?_
  rw [hx] at q
  exact Post.here q r (f H _)
/-! ### operators -/
theorem se_bin {o : BO} {a b : Expr} {pos : Pos} {fa fb : Env → Gs → Out W} {F : Env → Gs → Out W} (ha : PE X a (tE X.K Wx fa)) (hb : PE X b (tE X.K Wx fb))
    (hF : F = fun env g => (fa env g).bind fun x g1 => (fb env g1).bind fun y g2 => (Out.ofO g2 (peek g2 x)).bind fun x' _ => (Out.ofO g2 (peek g2 y)).bind fun y' _ => binW o g2 x' y') : PE X (.BinOp a (boOp o) b pos) (tE X.K Wx F) := by
  subst hF
  refine (pe_op (or_bin o) ha hb).imp fun σ H Q ⟨env, g, μ, P, r, er, q⟩ => ?_
  refine step1 (p := fun H μ => Post X.K H μ P Q) r er (fun e h => Post.up e h) q fun w1 g1 v1 H1 μ1 r1 e1 er1 h1 q => ?_
  refine step1 (p := fun H μ => Post X.K H μ P Q) r1 er1 (fun e h => Post.up e h) q fun w2 g2 v2 H2 μ2 r2 e2 er2 h2 q => ?_
  obtain ⟨x', ex, q⟩ := q.ofO
  obtain ⟨y', ey, q⟩ := q.ofO
  have z : ∃ w g', binW o g2 x' y' = .ok w g' ∧ Post X.K H2 μ2 P Q w g' := by
    cases e : binW o g2 x' y' with
    | ok w g' => rw [e] at q; exact ⟨w, g', rfl, q⟩
    | exc x g' =>
      exfalso
      unfold binW at e
      split at e <;> cases e
    | no => rw [e] at q; exact q.elim
  obtain ⟨w, g', e, p⟩ := z
  exact ⟨g2, μ2, P, x', y', w, g', r2, r2.peek (h1.up e2) ex, r2.peek h2 ey, e, p⟩
theorem se_neg {a : Expr} {pos : Pos} {fa F : Env → Gs → Out W} (ha : PE X a (tE X.K Wx fa))
    (hF : F = fun env g => (fa env g).bind fun x g1 => match x with
    | .d (.int i) => .ok (.d (.int (-i))) g1
    | _ => .no) : PE X (.UnaryOp .USub a pos) (tE X.K Wx F) := by
  subst hF
  refine (pe_un un_neg ha).imp fun σ H Q ⟨env, g, μ, P, r, er, q⟩ => ?_
  refine step1 (p := fun H μ => Post X.K H μ P Q) r er (fun e h => Post.up e h) q fun w1 g1 v1 H1 μ1 r1 e1 er1 h1 q => ?_
  split at q
  · rename_i i
    cases (show Fz X.K H1 (Ms μ1 P) v1 (.int i) from h1)
    exact ⟨i, rfl, Post.here q r1 (Fz.int _)⟩
  · exact q.elim
/-- which comparisons walk where -/
theorem or_co (o : CO) (hu : X.A.units + 66 < cLine) (hs : o ≠ .is ∧ o ≠ .isnot) : OpR X (compareOp (coOp o)) (rCo X.K o) := by
  cases o with
  | eq => exact (or_eqne (by omega)).1
  | ne => exact (or_eqne (by omega)).2
  | lt => exact or_ord.1
  | le => exact or_ord.2.1
  | gt => exact or_ord.2.2.1
  | ge => exact or_ord.2.2.2
  | isin => exact or_in hu
  | notin => exact or_notin hu
  | is => exact absurd rfl hs.1
  | isnot => exact absurd rfl hs.2
theorem or_is : OpR X (compareOp .Is) (rCo X.K .is) := by
  intro pins s σ H x y v u Q I rx ry h
  obtain ⟨M, x', y', b, hx, hy, e, p⟩ := h
  have e : isD x' y' = some b := e
  cases y' with
  | none =>
    cases hy.non
    refine op_isN pins s σ H _ _ v u Q I rx ry ⟨rfl, ?_⟩
    rcases pk_cases hx with ⟨rfl, rfl⟩ | ⟨c, rfl, rfl⟩ | ⟨c, rfl, rfl⟩ | ⟨c, rfl, rfl⟩ | ⟨a, ds, rfl | rfl, rfl⟩ <;> cases e <;> exact p
  | bool c =>
    cases x' <;> first
      | (cases e; done)
      | skip
    cases e
    cases hx.bl
    cases hy.bl
    exact op_isBl pins s σ H _ _ v u Q I rx ry ⟨_, _, rfl, rfl, p⟩
  | _ => cases x' <;> cases e
theorem or_isnot : OpR X (compareOp .IsNot) (rCo X.K .isnot) := by
  intro pins s σ H x y v u Q I rx ry h
  obtain ⟨M, x', y', b, hx, hy, e, p⟩ := h
  have e : (isD x' y').map (!·) = some b := e
  obtain ⟨c, e', rfl⟩ := Option.map_eq_some_iff.mp e
  clear e
  cases y' with
  | none =>
    cases hy.non
    refine op_notN pins s σ H _ _ v u Q I rx ry ⟨rfl, ?_⟩
    rcases pk_cases hx with ⟨rfl, rfl⟩ | ⟨c, rfl, rfl⟩ | ⟨c, rfl, rfl⟩ | ⟨c, rfl, rfl⟩ | ⟨a, ds, rfl | rfl, rfl⟩ <;> cases e' <;> exact p
  | bool c =>
    cases x' <;> first
      | (cases e'; done)
      | skip
    cases e'
    cases hx.bl
    cases hy.bl
    exact op_notBl pins s σ H _ _ v u Q I rx ry ⟨_, _, rfl, rfl, p⟩
  | _ => cases x' <;> cases e'
theorem or_cmp (o : CO) (hu : X.A.units + 66 < cLine) : OpR X (compareOp (coOp o)) (rCo X.K o) := by
  by_cases h1 : o = .is
  · subst h1; exact or_is
  · by_cases h2 : o = .isnot
    · subst h2; exact or_isnot
    · exact or_co o hu ⟨h1, h2⟩
/-- no set display -/
def notSet : Expr → Bool
  | .Set .. => false
  | _ => true
theorem noMarks {op : CmpOp} {b : Expr} (h : notSet b = true) : behindInMarks op b = false := by
  cases b <;> first
    | rfl
    | cases h
def cmpK {α : Type} (o : CO) (mk : Bool → Gs → Out α) (x y : W) (g2 : Gs) : Out α := (Out.ofO g2 (peek g2 x)).bind fun x' _ => (Out.ofO g2 (peek g2 y)).bind fun y' _ => (Out.ofO g2 (cmpD o x' y')).bind fun r _ => mk r g2
theorem cmp_core {o : CO} {fa fb : Env → Gs → Out W} {α : Type} {mk : Bool → Gs → Out α} {p : Hp → List (Option Addr) → Pv → α → Gs → Prop} {σ : L2.St} {H : Hp} {Q : VK} {env : Env} {g : Gs} {μ : List (Option Addr)} {P : Pv}
    (up : ∀ {H H1 μ μ1 P a g1}, Ext H μ H1 μ1 → p H μ P a g1 → p H1 μ1 P a g1)
    (r : Rel X.K H μ P g) (er : ER X.K H μ P σ env) (q : Gd ((fa env g).bind fun x g1 => (fb env g1).bind fun y g2 => cmpK o mk x y g2) (p H μ P) (Rx X.K Wx σ H μ P))
    (fin : ∀ b g2 H2 μ2, Rel X.K H2 μ2 P g2 → Ext H μ H2 μ2 → ER X.K H2 μ2 P σ env → Gd (mk b g2) (p H2 μ2 P) (Rx X.K Wx σ H2 μ2 P) → Q (.bl b) H2) : tOp (rCo X.K o) (tE X.K Wx fa) (tE X.K Wx fb) σ H Q := by
  refine step1 (p := fun H μ => p H μ P) r er (fun e h => up e h) q fun w1 g1 v1 H1 μ1 r1 e1 er1 h1 q => ?_
  refine step1 (p := fun H μ => p H μ P) r1 er1 (fun e h => up e h) q fun w2 g2 v2 H2 μ2 r2 e2 er2 h2 q => ?_
  obtain ⟨x', ex, q⟩ := Gd.ofO q
  obtain ⟨y', ey, q⟩ := Gd.ofO q
  obtain ⟨b, eb, q⟩ := Gd.ofO q
  exact ⟨Ms μ2 P, x', y', b, r2.peek (h1.up e2) ex, r2.peek h2 ey, eb, fin b g2 H2 μ2 r2 (e1.trans e2) er2 q⟩
theorem se_cmp {o : CO} {a b : Expr} {pos : Pos} {fa fb F : Env → Gs → Out W} (hu : X.A.units + 66 < cLine) (hs : notSet b = true) (ha : PE X a (tE X.K Wx fa)) (hb : PE X b (tE X.K Wx fb))
    (hF : F = fun env g => (fa env g).bind fun x g1 => (fb env g1).bind fun y g2 => cmpK o (fun r g => .ok (.d (.bool r)) g) x y g2) : PE X (.Compare a [coOp o] [b] pos) (tE X.K Wx F) := by
  subst hF
  refine (pe_cmpR (or_cmp o hu) ha hb (noMarks hs)).imp fun σ H Q ⟨env, g, μ, P, r, er, q⟩ => ?_
  exact cmp_core (p := fun H μ P => Post X.K H μ P Q) (fun e h => Post.up e h) r er q fun b g2 H2 μ2 r2 e2 er2 q => Post.here q r2 (Fz.bl _)
theorem st_cmp {o : CO} {a b : Expr} {pos : Pos} {fa fb : Env → Gs → Out W} {F : Env → Gs → Out Bool} (hu : X.A.units + 66 < cLine) (hs : notSet b = true) (ha : PE X a (tE X.K Wx fa)) (hb : PE X b (tE X.K Wx fb))
    (hF : F = fun env g => (fa env g).bind fun x g1 => (fb env g1).bind fun y g2 => cmpK o (fun r g => .ok r g) x y g2) : PT X (.Compare a [coOp o] [b] pos) (tT X.K Wx F) := by
  subst hF
  refine (pt_cmpR (or_cmp o hu) ha hb (noMarks hs)).imp fun σ H Q ⟨env, g, μ, P, r, er, q⟩ => ?_
  exact cmp_core (p := fun H μ P => PostT X.K H μ P Q) (fun e h => PostT.up e h) r er q fun b g2 H2 μ2 r2 e2 er2 q => ⟨b, rfl, (show PostT X.K H2 μ2 P Q b g2 from q) H2 μ2 r2 .refl⟩
/-- a chain's turns -/
def chK {α : Type} (o p : CO) (fc : Env → Gs → Out W) (mk : Bool → Gs → Out α) (env : Env) (x y : W) (g2 : Gs) : Out α :=
  cmpK o (fun r g2 => if r = true then (fc env g2).bind fun z g3 => cmpK p mk y z g3 else mk false g2) x y g2
theorem chain_core {o o' : CO} {fa fb fc : Env → Gs → Out W} {α : Type} {mk : Bool → Gs → Out α} {p : Hp → List (Option Addr) → Pv → α → Gs → Prop} {σ : L2.St} {H : Hp} {Q : VK} {env : Env} {g : Gs} {μ : List (Option Addr)} {P : Pv}
    (up : ∀ {H H1 μ μ1 P a g1}, Ext H μ H1 μ1 → p H μ P a g1 → p H1 μ1 P a g1)
    (r : Rel X.K H μ P g) (er : ER X.K H μ P σ env) (q : Gd ((fa env g).bind fun x g1 => (fb env g1).bind fun y g2 => chK o o' fc mk env x y g2) (p H μ P) (Rx X.K Wx σ H μ P))
    (fin : ∀ b g2 H2 μ2, Rel X.K H2 μ2 P g2 → Gd (mk b g2) (p H2 μ2 P) (Rx X.K Wx σ H2 μ2 P) → Q (.bl b) H2) : tChain (rCo X.K o) (rCo X.K o') (tE X.K Wx fa) (tE X.K Wx fb) (tE X.K Wx fc) σ H Q := by
  refine step1 (p := fun H μ => p H μ P) r er (fun e h => up e h) q fun w1 g1 v1 H1 μ1 r1 e1 er1 h1 q => ?_
  refine step1 (p := fun H μ => p H μ P) r1 er1 (fun e h => up e h) q fun w2 g2 v2 H2 μ2 r2 e2 er2 h2 q => ?_
  obtain ⟨x', ex, q⟩ := Gd.ofO q
  obtain ⟨y', ey, q⟩ := Gd.ofO q
  obtain ⟨b, eb, q⟩ := Gd.ofO q
  refine ⟨Ms μ2 P, x', y', b, r2.peek (h1.up e2) ex, r2.peek h2 ey, eb, b, rfl, ?_⟩
  cases b with
  | false => exact fin false g2 H2 μ2 r2 q
  | true =>
    refine step1 (p := fun H μ => p H μ P) r2 er2 (fun e h => up e h) q fun w3 g3 v3 H3 μ3 r3 e3 er3 h3 q => ?_
    obtain ⟨y2, ey2, q⟩ := Gd.ofO q
    obtain ⟨z', ez, q⟩ := Gd.ofO q
    obtain ⟨b, eb, q⟩ := Gd.ofO q
    exact ⟨Ms μ3 P, y2, z', b, r3.peek (h2.up e3) ey2, r3.peek h3 ez, eb, fin b g3 H3 μ3 r3 q⟩
theorem lastM {o o' : CmpOp} {b c : Expr} (h : notSet c = true) : lastMarks [o, o'] [b, c] = false := by
  show behindInMarks o' c = false
  exact noMarks h
theorem se_chain {o o' : CO} {a b c : Expr} {pos : Pos} {fa fb fc F : Env → Gs → Out W} (hu : X.A.units + 66 < cLine) (hs : notSet c = true) (ha : PE X a (tE X.K Wx fa)) (hb : PE X b (tE X.K Wx fb)) (hc : PE X c (tE X.K Wx fc))
    (hF : F = fun env g => (fa env g).bind fun x g1 => (fb env g1).bind fun y g2 => chK o o' fc (fun r g => .ok (.d (.bool r)) g) env x y g2) : PE X (.Compare a [coOp o, coOp o'] [b, c] pos) (tE X.K Wx F) := by
  subst hF
  refine (pe_chain (or_cmp o hu) (or_cmp o' hu) ha hb hc (lastM hs)).imp fun σ H Q ⟨env, g, μ, P, r, er, q⟩ => ?_
  exact chain_core (p := fun H μ P => Post X.K H μ P Q) (fun e h => Post.up e h) r er q fun b g2 H2 μ2 r2 q => Post.here q r2 (Fz.bl _)
theorem st_chain {o o' : CO} {a b c : Expr} {pos : Pos} {fa fb fc : Env → Gs → Out W} {F : Env → Gs → Out Bool} (hu : X.A.units + 66 < cLine) (hs : notSet c = true) (ha : PE X a (tE X.K Wx fa)) (hb : PE X b (tE X.K Wx fb)) (hc : PE X c (tE X.K Wx fc))
    (hF : F = fun env g => (fa env g).bind fun x g1 => (fb env g1).bind fun y g2 => chK o o' fc (fun r g => .ok r g) env x y g2) : PT X (.Compare a [coOp o, coOp o'] [b, c] pos) (tT X.K Wx F) := by
  subst hF
  refine (pt_chain (or_cmp o hu) (or_cmp o' hu) ha hb hc (lastM hs)).imp fun σ H Q ⟨env, g, μ, P, r, er, q⟩ => ?_
  exact chain_core (p := fun H μ P => PostT X.K H μ P Q) (fun e h => PostT.up e h) r er q fun b g2 H2 μ2 r2 q => ⟨b, rfl, (show PostT X.K H2 μ2 P Q b g2 from q) H2 μ2 r2 .refl⟩
/-! ### truth: an expression whose value is a bool -/
theorem st_val {e : Expr} {f : Env → Gs → Out W} {F : Env → Gs → Out Bool} (h : PE X e (tE X.K Wx f)) (hF : F = fun env g => (f env g).bind fun w g1 => asB g1 w)
    (he : ∀ whole, isTrue e X.env whole = (do let v ← whole; standAt e.pos; holding [v] (truthy v))) : PT X e (tT X.K Wx F) := by
  subst hF
  refine (pt_val h he).imp fun σ H Q ⟨env, g, μ, P, r, er, q⟩ => ?_
  refine step1 (p := fun H μ => PostT X.K H μ P Q) r er (fun e h => PostT.up e h) q fun w1 g1 v1 H1 μ1 r1 e1 er1 h1 q => ?_
  unfold asB at q
  split at q
  · rename_i b
    cases (show Fz X.K H1 (Ms μ1 P) v1 (.bool b) from h1)
    exact ⟨b, rfl, (show PostT X.K H1 μ1 P Q b g1 from q) H1 μ1 r1 .refl⟩
  · exact q.elim
/-! ### and, or, not, if -/
theorem asB_of {K : PySem.W.Frag} {H : Hp} {μ : List (Option Addr)} {P : Pv} {v : V} {w : W} {g : Gs} {α : Type} {k : Bool → Gs → Out α} {p : α → Gs → Prop} {r : Exn → Gs → Prop} (h : WR K H μ P v w)
    (q : Gd ((asB g w).bind k) p r) : ∃ b, w = .d (.bool b) ∧ v = .bl b ∧ Gd (k b g) p r := by
  unfold asB at q
  split at q
  · rename_i b
    cases (show Fz K H (Ms μ P) v (.bool b) from h)
    exact ⟨b, rfl, rfl, q⟩
  · exact q.elim
theorem se_not {a : Expr} {pos : Pos} {fa F : Env → Gs → Out W} (ha : PE X a (tE X.K Wx fa))
    (hF : F = fun env g => (fa env g).bind fun x g1 => (asB g1 x).bind fun b g2 => .ok (.d (.bool (!b))) g2) : PE X (.UnaryOp .Not a pos) (tE X.K Wx F) := by
  subst hF
  refine (pe_not ha).imp fun σ H Q ⟨env, g, μ, P, r, er, q⟩ => ?_
  refine step1 (p := fun H μ => Post X.K H μ P Q) r er (fun e h => Post.up e h) q fun w1 g1 v1 H1 μ1 r1 e1 er1 h1 q => ?_
  obtain ⟨b, rfl, rfl, q⟩ := asB_of h1 q
  exact ⟨b, rfl, Post.here q r1 (Fz.bl _)⟩
theorem se_and {a b : Expr} {rest : List Expr} {pos : Pos} {fa fb F : Env → Gs → Out W} (ha : PE X a (tE X.K Wx fa)) (hb : PE X (.BoolOp .And (b :: rest) pos) (tE X.K Wx fb))
    (hF : F = fun env g => (fa env g).bind fun x g1 => (asB g1 x).bind fun b g2 => if b = true then fb env g2 else .ok (.d (.bool false)) g2) : PE X (.BoolOp .And (a :: b :: rest) pos) (tE X.K Wx F) := by
  subst hF
  refine (pe_and ha hb).imp fun σ H Q ⟨env, g, μ, P, r, er, q⟩ => ?_
  refine step1 (p := fun H μ => Post X.K H μ P Q) r er (fun e h => Post.up e h) q fun w1 g1 v1 H1 μ1 r1 e1 er1 h1 q => ?_
  obtain ⟨b, rfl, rfl, q⟩ := asB_of h1 q
  refine ⟨b, rfl, ?_⟩
  cases b with
  | true => exact ⟨env, g1, μ1, P, r1, er1, q⟩
  | false => exact Post.here q r1 (Fz.bl _)
theorem se_or {a b : Expr} {rest : List Expr} {pos : Pos} {fa fb F : Env → Gs → Out W} (ha : PE X a (tE X.K Wx fa)) (hb : PE X (.BoolOp .Or (b :: rest) pos) (tE X.K Wx fb))
    (hF : F = fun env g => (fa env g).bind fun x g1 => (asB g1 x).bind fun b g2 => if b = true then .ok (.d (.bool true)) g2 else fb env g2) : PE X (.BoolOp .Or (a :: b :: rest) pos) (tE X.K Wx F) := by
  subst hF
  refine (pe_or ha hb).imp fun σ H Q ⟨env, g, μ, P, r, er, q⟩ => ?_
  refine step1 (p := fun H μ => Post X.K H μ P Q) r er (fun e h => Post.up e h) q fun w1 g1 v1 H1 μ1 r1 e1 er1 h1 q => ?_
  obtain ⟨b, rfl, rfl, q⟩ := asB_of h1 q
  refine ⟨b, rfl, ?_⟩
  cases b with
  | true => exact Post.here q r1 (Fz.bl _)
  | false => exact ⟨env, g1, μ1, P, r1, er1, q⟩
theorem se_ite {c a b : Expr} {pos : Pos} {fc : Env → Gs → Out Bool} {fa fb F : Env → Gs → Out W} (hc : PT X c (tT X.K Wx fc)) (ha : PE X a (tE X.K Wx fa)) (hb : PE X b (tE X.K Wx fb))
    (hF : F = fun env g => (fc env g).bind fun t g1 => if t = true then fa env g1 else fb env g1) : PE X (.IfExp c a b pos) (tE X.K Wx F) := by
  subst hF
  refine (pe_ifExp hc ha hb).imp fun σ H Q ⟨env, g, μ, P, r, er, q⟩ => ?_
  refine stepT (p := fun H μ => Post X.K H μ P Q) r er (fun e h => Post.up e h) q fun t g1 H1 μ1 r1 e1 er1 q => ?_
  cases t with
  | true => exact ⟨env, g1, μ1, P, r1, er1, q⟩
  | false => exact ⟨env, g1, μ1, P, r1, er1, q⟩
theorem st_not {a : Expr} {pos : Pos} {fa F : Env → Gs → Out Bool} (ha : PT X a (tT X.K Wx fa))
    (hF : F = fun env g => (fa env g).bind fun b g1 => .ok (!b) g1) : PT X (.UnaryOp .Not a pos) (tT X.K Wx F) := by
  subst hF
  refine (pt_not ha).imp fun σ H Q ⟨env, g, μ, P, r, er, q⟩ => ?_
  refine stepT (p := fun H μ => PostT X.K H μ P Q) r er (fun e h => PostT.up e h) q fun t g1 H1 μ1 r1 e1 er1 q => ?_
  exact (show PostT X.K H1 μ1 P Q (!t) g1 from q) H1 μ1 r1 .refl
theorem sw_one {a : Expr} {pos : Pos} {op : BoolOp} {fa : Env → Gs → Out Bool} (ha : PT X a (tT X.K Wx fa)) : PW X (.BoolOp op [a] pos) (tT X.K Wx fa) := by
  cases op with
  | And => exact pw_and1 ha
  | Or => exact pw_or1 ha
theorem sw_and {a b : Expr} {rest : List Expr} {pos : Pos} {fa fb F : Env → Gs → Out Bool} (ha : PT X a (tT X.K Wx fa)) (hb : PW X (.BoolOp .And (b :: rest) pos) (tT X.K Wx fb))
    (hF : F = fun env g => (fa env g).bind fun b g1 => if b = true then fb env g1 else .ok false g1) : PW X (.BoolOp .And (a :: b :: rest) pos) (tT X.K Wx F) := by
  subst hF
  refine (pw_and ha hb).imp fun σ H Q ⟨env, g, μ, P, r, er, q⟩ => ?_
  refine stepT (p := fun H μ => PostT X.K H μ P Q) r er (fun e h => PostT.up e h) q fun t g1 H1 μ1 r1 e1 er1 q => ?_
  cases t with
  | true => exact ⟨env, g1, μ1, P, r1, er1, q⟩
  | false => exact (show PostT X.K H1 μ1 P Q false g1 from q) H1 μ1 r1 .refl
theorem sw_or {a b : Expr} {rest : List Expr} {pos : Pos} {fa fb F : Env → Gs → Out Bool} (ha : PT X a (tT X.K Wx fa)) (hb : PW X (.BoolOp .Or (b :: rest) pos) (tT X.K Wx fb))
    (hF : F = fun env g => (fa env g).bind fun b g1 => if b = true then .ok true g1 else fb env g1) : PW X (.BoolOp .Or (a :: b :: rest) pos) (tT X.K Wx F) := by
  subst hF
  refine (pw_or ha hb).imp fun σ H Q ⟨env, g, μ, P, r, er, q⟩ => ?_
  refine stepT (p := fun H μ => PostT X.K H μ P Q) r er (fun e h => PostT.up e h) q fun t g1 H1 μ1 r1 e1 er1 q => ?_
  cases t with
  | true => exact (show PostT X.K H1 μ1 P Q true g1 from q) H1 μ1 r1 .refl
  | false => exact ⟨env, g1, μ1, P, r1, er1, q⟩
/-! ### argument lists, displays -/
theorem sa_nil {F : Env → Gs → Out (List W)} (hF : F = fun _ g => .ok [] g) : PA X [] (tA X.K Wx F) := by
  subst hF
  refine pa_nil.imp fun σ H Q ⟨env, g, μ, P, r, er, q⟩ => ?_
  exact (show PostA X.K H μ P Q [] g from q) [] H μ r .refl .nil
def notStar : Expr → Bool
  | .Starred .. => false
  | _ => true
theorem star_cons {e : Expr} {es : List Expr} {env : PySem.Env} (h : notStar e = true) : starEach (e :: es) env = (false, eval e env) :: starEach es env := by
  cases e <;> first
    | rfl
    | cases h
theorem sa_cons {e : Expr} {es : List Expr} {f : Env → Gs → Out W} {fs F : Env → Gs → Out (List W)} (hs : notStar e = true) (he : PE X e (tE X.K Wx f)) (hes : PA X es (tA X.K Wx fs))
    (hF : F = fun env g => (f env g).bind fun w g1 => (fs env g1).bind fun ws g2 => .ok (w :: ws) g2) : PA X (e :: es) (tA X.K Wx F) := by
  subst hF
  refine (pa_cons he hes (star_cons hs)).imp fun σ H Q ⟨env, g, μ, P, r, er, q⟩ => ?_
  refine step1 (p := fun H μ => PostA X.K H μ P Q) r er (fun e h => PostA.up e h) q fun w1 g1 v1 H1 μ1 r1 e1 er1 h1 q => ?_
  refine stepA (p := fun H μ => PostA X.K H μ P Q) r1 er1 (fun e h => PostA.up e h) q fun ws g2 vs H2 μ2 r2 e2 er2 h2 q => ?_
  exact (show PostA X.K H2 μ2 P Q (w1 :: ws) g2 from q) (v1 :: vs) H2 μ2 r2 .refl (.cons (h1.up e2) h2)
theorem gives_of {K : PySem.W.Frag} {H : Hp} {μ : List (Option Addr)} {P : Pv} {vs : List V} {ws : List W} {g : Gs} {α : Type} {k : List D → Gs → Out α} {p : α → Gs → Prop} {r : Exn → Gs → Prop} (rl : Rel K H μ P g) (h : WRs K H μ P vs ws)
    (q : Gd ((gives g ws).bind k) p r) : ∃ xs g' μ', Rel K H μ' P g' ∧ Ext H μ H μ' ∧ FzAll K H (Ms μ' P) vs xs ∧ Gd (k xs g') p r := by
  cases e : gives g ws with
  | ok xs g' =>
    rw [e] at q
    obtain ⟨μ', r', e', f⟩ := Rel.gives rl h e
    exact ⟨xs, g', μ', r', e', f, q⟩
  | exc x g' =>
    exfalso
    have : ∀ (ws : List W) (g g' : Gs) x, gives g ws ≠ .exc x g' := by
      intro ws
      induction ws with
      | nil => intro g g' x z; cases z
      | cons w ws ih =>
        intro g g' x z
        unfold gives at z
        cases e1 : give g w with
        | ok y g1 =>
          rw [e1] at z
          simp only [Out.bind_ok] at z
          cases e2 : gives g1 ws with
          | ok ys g2 => rw [e2] at z; cases z
          | exc x g2 => exact ih _ _ _ e2
          | no => rw [e2] at z; cases z
        | exc y g1 =>
          cases w with
          | d y => cases e1
          | scr ns => cases e1
          | ref n => simp only [give] at e1; split at e1 <;> cases e1
        | no => rw [e1] at z; cases z
    exact this _ _ _ _ e
  | no => rw [e] at q; exact q.elim
theorem guard_of {α : Type} {c : Bool} {o : Out α} {p : α → Gs → Prop} {r : Exn → Gs → Prop} (h : Gd (if c = true then o else .no) p r) : c = true ∧ Gd o p r := by
  cases c with
  | true => exact ⟨rfl, h⟩
  | false => exact h.elim
theorem se_tup {es : List Expr} {k pos} {fs : Env → Gs → Out (List W)} {F : Env → Gs → Out W} (h : PA X es (tA X.K Wx fs))
    (hF : F = fun env g => (fs env g).bind fun ws g1 => (gives g1 ws).bind fun xs g2 => if decide (xs.length ≤ sizeLine) = true then .ok (.d (.tuple xs)) g2 else .no) : PE X (.Tuple es k pos) (tE X.K Wx F) := by
  subst hF
  refine (pe_tup h).imp fun σ H Q ⟨env, g, μ, P, r, er, q⟩ => ?_
  refine stepA (p := fun H μ => Post X.K H μ P Q) r er (fun e h => Post.up e h) q fun ws g1 vs H1 μ1 r1 e1 er1 h1 q => ?_
  obtain ⟨xs, g2, μ2, r2, e2, f, q⟩ := gives_of r1 h1 q
  obtain ⟨hc, q⟩ := guard_of q
  refine ⟨by rw [f.length]; exact decT hc, ?_⟩
  exact Post.tup (Post.up e2 q) r2 f
theorem se_lst {es : List Expr} {pos} {fs : Env → Gs → Out (List W)} {F : Env → Gs → Out W} (h : PA X es (tA X.K Wx fs))
    (hF : F = fun env g => (fs env g).bind fun ws g1 => (gives g1 ws).bind fun xs g2 => if decide (xs.length ≤ sizeLine) = true then newL g2 xs else .no) : PE X (.List es pos) (tE X.K Wx F) := by
  subst hF
  refine (pe_lst h).imp fun σ H Q ⟨env, g, μ, P, r, er, q⟩ => ?_
  refine stepA (p := fun H μ => Post X.K H μ P Q) r er (fun e h => Post.up e h) q fun ws g1 vs H1 μ1 r1 e1 er1 h1 q => ?_
  obtain ⟨xs, g2, μ2, r2, e2, f, q⟩ := gives_of r1 h1 q
  obtain ⟨hc, q⟩ := guard_of q
  refine ⟨by rw [f.length]; exact decT hc, ?_⟩
  exact Post.lst (Post.up e2 q) rfl r2 f
/-! ### the new list as data -/
theorem freeze_ok {K : PySem.W.Frag} {H H1 : Hp} {μ μ1 : List (Option Addr)} {P : Pv} {g g1 g2 : Gs} {v : V} {w w2 : W} (r : Rel K H μ P g) (r1 : Rel K H1 μ1 P g1) (e1 : Ext H μ H1 μ1) (h : WR K H1 μ1 P v w)
    (q : freezeAt g.length g1 w = .ok w2 g2) : ∃ μ2, Rel K H1 μ2 P g2 ∧ Ext H μ H1 μ2 ∧ WR K H1 μ2 P v w2 := by
  have rc := r1.cut g.length
  have ec := e1.cut
  rw [r.len] at ec
  cases w with
  | d x =>
    cases q
    exact ⟨_, rc, ec, Fz.cut h⟩
  | scr ns => cases q
  | ref m =>
    simp only [freezeAt] at q
    split at q
    · rename_i hm
      split at q
      · rename_i xs hx
        cases q
        obtain ⟨a, vs, rfl, h2, h3, h4⟩ := r1.at hx h
        refine ⟨_, rc, ec, Fz.lst h3 (fun z => ?_) h4.cut⟩
        rcases z with z | z
        · obtain ⟨i, hi⟩ := List.mem_iff_getElem?.mp z
          rw [List.getElem?_take] at hi
          split at hi
          · have := r1.inj m i a h2 hi
            omega
          · cases hi
        · exact r1.apart _ (List.mem_of_getElem? h2) z
      · cases q
    · cases q
theorem se_frz {e : Expr} {f F : Env → Gs → Out W} (h : PE X e (tE X.K Wx f)) (hF : F = fun env g => (f env g).bind fun w g1 => freezeAt g.length g1 w) : PE X e (tE X.K Wx F) := by
  subst hF
  refine h.imp fun σ H Q ⟨env, g, μ, P, r, er, q⟩ => ?_
  refine ⟨env, g, μ, P, r, er, q.bind.mono (fun w g1 q v H1 μ1 r1 e1 h1 => ?_) fun _ _ z => z⟩
  cases e : freezeAt g.length g1 w with
  | ok w2 g2 =>
    rw [e] at q
    obtain ⟨μ2, r2, e2, h2⟩ := freeze_ok r r1 e1 h1 e
    exact q v H1 μ2 r2 e2 h2
  | exc x g2 =>
    exfalso
    cases w with
    | d x => cases e
    | scr ns => cases e
    | ref m => simp only [freezeAt] at e; split at e <;> (try split at e) <;> cases e
  | no => rw [e] at q; exact q.elim
end RF
end
section
set_option Elab.async false
set_option linter.all false
set_option maxRecDepth 100000
/-! Readings: subscripts, calls, what is walked, comprehensions. -/
namespace RF
open PySem PySem.Spec PyProof.Rows L2
variable {X : Cx} {Wx : WX}

/-! ### subscripts -/
def notSlice : Expr → Bool
  | .Slice .. => false
  | _ => true
theorem plainIx_of {b : Expr} (h : notSlice b = true) : PlainIx b := by
  intro o i
  cases b <;> first
    | rfl
    | cases h
theorem atI_fz {K : PySem.W.Frag} {H : Hp} {M : Addr → Prop} {ds : List D} {vs : List V} {i : Int} {d : D} (f : FzAll K H M vs ds) (h : atI ds i = some d) : ∃ v, atI vs i = some v ∧ Fz K H M v d := by
  unfold atI at *
  rw [f.length]
  obtain ⟨j, h1, h2⟩ := Option.bind_eq_some_iff.mp h
  obtain ⟨v, h3, h4⟩ := f.get h2
  exact ⟨v, by rw [h1]; exact h3, h4⟩
theorem se_idx {a b : Expr} {pos : Pos} {fa fb F : Env → Gs → Out W} (hs : notSlice b = true) (ha : PE X a (tE X.K Wx fa)) (hb : PE X b (tE X.K Wx fb))
    (hF : F = fun env g => (fa env g).bind fun x g1 => (fb env g1).bind fun y g2 => (Out.ofO g2 (peek g2 x)).bind fun x' _ => (Out.ofO g2 (peek g2 y)).bind fun y' _ => (Out.ofO g2 (idxD x' y')).bind fun z _ => .ok (.d z) g2) :
    PE X (.Subscript a b pos) (tE X.K Wx F) := by
  subst hF
  refine (pe_ix (ix_list.or ix_tup) ha hb (plainIx_of hs)).imp fun σ H Q ⟨env, g, μ, P, r, er, q⟩ => ?_
  refine step1 (p := fun H μ => Post X.K H μ P Q) r er (fun e h => Post.up e h) q fun w1 g1 v1 H1 μ1 r1 e1 er1 h1 q => ?_
  refine step1 (p := fun H μ => Post X.K H μ P Q) r1 er1 (fun e h => Post.up e h) q fun w2 g2 v2 H2 μ2 r2 e2 er2 h2 q2 => ?_
  clear q
  obtain ⟨x', ex, q3⟩ := q2.ofO
  obtain ⟨y', ey, q4⟩ := q3.ofO
  obtain ⟨z, ez, q5⟩ := q4.ofO
  clear q2 q3 q4
  replace q5 : Post X.K H2 μ2 P Q (.d z) g2 := q5
  have p1 := r2.peek (h1.up e2) ex
  have p2 := r2.peek h2 ey
  cases x' <;> cases y' <;> first
    | (cases ez; done)
    | skip
  case list.int xs i =>
    obtain ⟨a, vs, rfl, hq, f⟩ := p1.list
    cases p2.int
    obtain ⟨v, h3, h4⟩ := atI_fz f ez
    exact .inl ⟨a, vs, i, v, rfl, rfl, SqL.of hq, h3, Post.here q5 r2 h4⟩
  case tuple.int xs i =>
    obtain ⟨a, vs, rfl, hq, f⟩ := p1.tuple
    cases p2.int
    obtain ⟨v, h3, h4⟩ := atI_fz f ez
    exact .inr ⟨a, vs, i, v, rfl, rfl, hq, h3, Post.here q5 r2 h4⟩
theorem so_none {F : Env → Gs → Out (Option Int)} (hF : F = fun _ g => .ok none g) : PO X none (tO X.K Wx F) := by
  subst hF
  refine po_none.imp fun σ H Q ⟨env, g, μ, P, r, er, q⟩ => ?_
  exact (show PostO X.K H μ P Q none g from q) H μ r .refl
theorem so_some {e : Expr} {f : Env → Gs → Out W} {F : Env → Gs → Out (Option Int)} (h : PE X e (tE X.K Wx f)) (hF : F = fun env g => (f env g).bind fun w g1 => partI w g1) : PO X (some e) (tO X.K Wx F) := by
  subst hF
  refine (po_some h).imp fun σ H Q ⟨env, g, μ, P, r, er, q⟩ => ?_
  refine ⟨env, g, μ, P, r, er, q.bind.mono (fun w g1 q v H1 μ1 r1 e1 h1 => ?_) fun _ _ z => z⟩
  unfold partI at q
  split at q
  · rename_i i
    cases (show Fz X.K H1 (Ms μ1 P) v (.int i) from h1)
    exact ⟨i, rfl, (show PostO X.K H μ P Q (some i) g1 from q) H1 μ1 r1 e1⟩
  · exact q.elim
theorem cut_fz {K : PySem.W.Frag} {H : Hp} {M : Addr → Prop} {ds : List D} {vs : List V} (f : FzAll K H M vs ds) (lo hi : Option Int) : FzAll K H M (cutV vs lo hi) (cutD ds lo hi) := by
  unfold cutV cutD
  rw [f.length]
  exact (f.drop _).take _
theorem cut_whole (ds : List D) {lo hi : Option Int} (h : HT.sIx ds.length 0 lo = 0 ∧ HT.sIx ds.length ds.length hi = ds.length) : cutD ds lo hi = ds := by
  unfold cutD
  rw [h.1, h.2]
  simp
theorem sl_fin {x' : D} {v1 : V} {l h : Option Int} {g3 : Gs} {H3 : Hp} {μ3 : List (Option Addr)} {P : Pv} {Q : VK} {r : Exn → Gs → Prop} (r3 : Rel X.K H3 μ3 P g3) (p1 : Pk X.K H3 (Ms μ3 P) v1 x') (q : Gd (sliceW g3 x' l h) (Post X.K H3 μ3 P Q) r) : (rSlL X.K v1 l h H3 Q ∨ rSlA X.K v1 l h H3 Q) ∨ rSlS v1 l h H3 Q := by
  cases x' with
  | list xs =>
    obtain ⟨a, vs, rfl, hq, f⟩ := p1.list
    exact .inl (.inl ⟨a, vs, rfl, SqL.of hq, Post.lst (g := g3) q rfl r3 (cut_fz f l h)⟩)
  | tuple xs =>
    obtain ⟨a, vs, rfl, hq, f⟩ := p1.tuple
    refine .inl (.inr ⟨a, vs, rfl, hq, fun z => ?_, fun _ => Post.tup q r3 (cut_fz f l h)⟩)
    rw [f.length] at z
    have q2 : Post X.K H3 μ3 P Q (.d (.tuple (cutD xs l h))) g3 := q
    rw [cut_whole xs z] at q2
    exact q2.here r3 (p1.flat (fun _ z => nomatch z))
  | str z =>
    obtain ⟨rfl, _, hz⟩ := p1.str
    unfold sliceW sliceD at q
    by_cases ho : okS (L2.cutS z l h) = true
    · simp only [if_pos ho] at q
      unfold okS at ho
      obtain ⟨o1, o2⟩ := Bool.and_eq_true_iff.mp ho
      exact .inr ⟨z, rfl, hz, (show Post X.K H3 μ3 P Q (.d (.str (L2.cutS z l h))) g3 from q).here r3 (Fz.str _ o1 (of_decide_eq_true o2))⟩
    · simp only [if_neg ho] at q
      exact q.elim
  | _ => exact q.elim
theorem se_sl {a : Expr} {lo hi : Option Expr} {p2 pos : Pos} {fa F : Env → Gs → Out W} {fl fh : Env → Gs → Out (Option Int)} (ha : PE X a (tE X.K Wx fa)) (hl : PO X lo (tO X.K Wx fl)) (hh : PO X hi (tO X.K Wx fh))
    (hF : F = fun env g => (fa env g).bind fun x g1 => (fl env g1).bind fun l g2 => (fh env g2).bind fun h g3 => (Out.ofO g3 (peek g3 x)).bind fun x' _ => sliceW g3 x' l h) :
    PE X (.Subscript a (.Slice lo hi none p2) pos) (tE X.K Wx F) := by
  subst hF
  refine (pe_slice ((sl_list.or sl_tupA).or sl_str) ha hl hh).imp fun σ H Q ⟨env, g, μ, P, r, er, q⟩ => ?_
  refine step1 (p := fun H μ => Post X.K H μ P Q) r er (fun e h => Post.up e h) q fun w1 g1 v1 H1 μ1 r1 e1 er1 h1 q => ?_
  refine ⟨env, g1, μ1, P, r1, er1, q.bind.mono (fun l g2 q H2 μ2 r2 e2 => ?_) fun _ _ z => z⟩
  refine ⟨env, g2, μ2, P, r2, er1.up e2, q.bind.mono (fun h g3 q H3 μ3 r3 e3 => ?_) fun _ _ z => z.up e2⟩
  obtain ⟨x', ex, q4⟩ := q.ofO
  have q5 : Gd (sliceW g3 x' l h) (Post X.K H3 μ3 P Q) (Rx X.K Wx σ H3 μ3 P) := q4.mono (fun _ _ z => Post.up (e2.trans e3) z) fun _ _ z => z.up (e2.trans e3)
  have p1 := r3.peek (h1.up (e2.trans e3)) ex
  exact sl_fin r3 p1 q5
end RF
end
section
set_option Elab.async false
set_option linter.all false
set_option maxRecDepth 100000
/-! While an exception is handled: the ends of list and tuple iterators and of zip; a tuple taken apart. -/
namespace RF
open PySem PySem.Spec PyProof.Rows L2 HotX

section
variable {prog : Program} {w : World} {A : Around} {E : Value → Shared → Prop} {s : Shared}
/-- the end that an exhausted iterator tells, its own object written before -/
theorem stop_hot {α : Type} {x1 it : Addr} {f : Obj → Obj} {h1 : Heap} {Q : α → Shared → Prop} (hot : HotAt A x1 s.heap) (ne : x1 ≠ it) (e1 : h1 = s.heap.update it f)
    (q : ∀ h' e, Heap.ExtBut it s.heap h' → (∃ o, h'.get? e = some o ∧ o.cls = .type "StopIteration") → E (.ref e) { s with heap := h' }) :
    wpAny (model prog w) A ((newExc (.type "StopIteration") [] >>= fun e => raiseNew e) : Sem α) Q E { s with heap := h1 } := by
  subst e1
  obtain ⟨hh, o1, vs1, g1, d1, c1⟩ := hot
  have k1 : (s.heap.update it f).get? x1 = some o1 := (Heap.get?_update_other _ _ (Ne.symm ne)).trans g1
  refine wpAny_bind ?_
  simp only [newExc, newTuple]
  refine wpAny_bind (wpAny_newObj_type ?_ (by size_fits))
  refine wpAny_bind (m := firstArgMember _ _) (wpAny_of_eq (a := Value.none) (by first | rfl | (simp only [firstArgMember]; rfl)) ?_)
  refine wpAny_newObj_type ?_ (by size_fits)
  have k2 := Heap.get?_push_of_some ({ cls := .type "tuple", data := .seq #[] } : Obj) k1
  refine raiseNew_hot ⟨hh, o1, vs1, Heap.get?_push_of_some _ (Heap.get?_push_of_some _ k1), d1, c1⟩ (Nat.ne_of_lt (Heap.lt_size (Heap.get?_push_of_some _ k1))) (Heap.get?_push_size _ rfl) rfl (by simp; omega) ?_
  refine q _ _ (fun b o hb e => ?_) ⟨_, Heap.get?_update_self _ (Heap.get?_push_size _ rfl) rfl, rfl⟩
  have e2 : (s.heap.update it f).get? b = some o := (Heap.get?_update_other _ _ (Ne.symm hb)).trans e
  rw [Heap.get?_update_other _ _ (Nat.ne_of_gt (Heap.lt_size (Heap.get?_push_of_some _ e2)))]
  exact Heap.get?_push_of_some _ (Heap.get?_push_of_some _ e2)
theorem nextOf_list_endH {it l x1 : Addr} {i : Nat} {items : Array Value} {Q : Value → Shared → Prop} (hot : HotAt A x1 s.heap) (ne : x1 ≠ it) (hit : s.heap.IsListIter it l i) (hl : s.heap.IsList l items) (hx : items[i]? = none)
    (q : ∀ h' e, Heap.ExtBut it s.heap h' → (∃ o, h'.get? e = some o ∧ o.cls = .type "StopIteration") → E (.ref e) { s with heap := h' }) :
    wpAny (model prog w) A (Builtin.SmallTypes.nextOf (.ref it)) Q E s := by
  obtain ⟨o, ho, hc, hd⟩ := id hit
  obtain ⟨ol, hol, _, nl, hdl⟩ := hl
  unfold Builtin.SmallTypes.nextOf
  refine wpAny_bind (wpAny_callSpecial?_slot (name := Str.ofString "__next__") hit.typeIs slot_listiter_next (wpAny_call_entry slot_listiter_next hit.typeIs entry_listiter_next ?_ (args_listiter_next _)))
  show wpAny _ _ (field (.ref it) 0 >>= _) _ _ s; refine wpAny_bind (wpAny_field ho hd (x := .ref l) rfl ?_)
  show wpAny _ _ (if (Value.ref l == Value.none) = true then _ else _) _ _ s; rw [if_neg (show ¬ ((Value.ref l == Value.none) = true) from Bool.false_ne_true)]
  show wpAny _ _ (field (.ref it) 1 >>= _) _ _ s; refine wpAny_bind (wpAny_field ho hd (x := .int i 0) rfl ?_)
  show wpAny _ _ (seqItems? (.ref l) >>= _) _ _ s; refine wpAny_bind (wpAny_seqItems hol hdl ?_)
  simp only [Int.toNat_natCast, hx]
  refine wpAny_bind (wpAny_rule (wpAny_bind (wpAny_setField ho hd (by simp) ?_)))
  exact stop_hot (A := A.in1) hot ne rfl q
theorem tuple_endH {it t x1 : Addr} {i : Nat} {items : Array Value} {Q : Option Value → Shared → Prop} (hot : HotAt A x1 s.heap) (ne : x1 ≠ it) (hit : IsTupIter s.heap it t i) (ht : IsTup s.heap t items) (hx : items[i]? = none)
    (q : ∀ h', Heap.ExtBut it s.heap h' → Q none { s with heap := h' }) : wpAny (model prog w) A (pyNext (.ref it)) Q E s := by
  obtain ⟨o, ho, hc, hd⟩ := id hit
  obtain ⟨ol, hol, _, nl, hdl⟩ := ht
  unfold pyNext
  refine wpAny_bind (wpAny_attempt (wpAny_callSpecial?_slot (name := Str.ofString "__next__") hit.typeIs slot_tupleiter_next (wpAny_call_entry slot_tupleiter_next hit.typeIs entry_tupleiter_next ?_ (args_tupleiter_next _))))
  show wpAny _ _ (field (.ref it) 0 >>= _) _ _ s; refine wpAny_bind (wpAny_field ho hd (x := .ref t) rfl ?_)
  show wpAny _ _ (if (Value.ref t == Value.none) = true then _ else _) _ _ s; rw [if_neg (show ¬ ((Value.ref t == Value.none) = true) from Bool.false_ne_true)]
  show wpAny _ _ (field (.ref it) 1 >>= _) _ _ s; refine wpAny_bind (wpAny_field ho hd (x := .int i 0) rfl ?_)
  show wpAny _ _ (seqItems? (.ref t) >>= _) _ _ s; refine wpAny_bind (wpAny_seqItems hol hdl ?_)
  simp only [Int.toNat_natCast, hx]
  refine wpAny_bind (wpAny_rule (wpAny_bind (wpAny_setField ho hd (by simp) ?_)))
  refine stop_hot (A := A.in1) hot ne rfl fun h' e k1 ⟨oe, k2, k3⟩ => ?_
  exact wpAny_bind (wpAny_isInstance (T := "StopIteration") (b := true) ⟨oe, k2, k3⟩ isSubtype_stop (wpAny_pure (q _ k1)))
/-- a tuple is taken apart -/
theorem unpackH {t x1 : Addr} {items : Array Value} {targets : List (Bool × (Value → Sem Unit))} {Q : Unit → Shared → Prop} (hot : HotAt A x1 s.heap) (ht : IsTup s.heap t items) (hn : targets.length = items.size) (hs : targets.findIdx? (·.1) = none)
    (q : ∀ h', Heap.ExtBut s.heap.objs.size s.heap h' → wpAny (model prog w) A (assignInOrder (targets.map (·.2)) items.toList) Q E { s with heap := h' }) : wpAny (model prog w) A (unpack (.ref t) targets) Q E s := by
  have lt : t ≠ s.heap.objs.size := by
    obtain ⟨o, ho, _⟩ := ht
    exact Nat.ne_of_lt (Heap.lt_size ho)
  have ltx : x1 ≠ s.heap.objs.size := by
    obtain ⟨_, o, _, ho, _⟩ := hot
    exact Nat.ne_of_lt (Heap.lt_size ho)
  unfold unpack
  rw [hn, hs]
  refine wpAny_bind (wpAny_holding ?_)
  unfold unpackItems
  refine wpAny_bind ?_
  unfold notIterableAtAll
  refine wpAny_bind (wpAny_specialOf ht.typeIs slot_tuple_iter.lookup (wpAny_pure ?_))
  simp only [Bool.false_eq_true, if_false]
  refine wpAny_bind (wpAny_holding (iter_tuple ht (wpAny_bind (wpAny_holding (draw_tuple lt items.size 0 _ _ ⟨_, Heap.get?_push_size _ rfl, rfl, rfl⟩ (ht.push _) (by omega) fun h1 it1 sb1 => ?_)))))
  rw [show List.take items.size (List.drop 0 items.toList) = items.toList from by rw [List.drop_zero]; exact List.take_of_length_le (by simp), if_neg (by simp)]
  have t1 : IsTup h1 t items := (ht.push _).extBut sb1.extBut lt
  have hot1 : HotAt A x1 h1 := by
    obtain ⟨hh, o, vs, ho, d, c⟩ := hot
    exact ⟨hh, o, vs, sb1.extBut _ _ ltx (Heap.get?_push_of_some _ ho), d, c⟩
  refine wpAny_bind (wpAny_holding (tuple_endH (s := { s with heap := h1 }) hot1 ltx it1 t1 (by simp) fun h2 e2 => ?_))
  simp only [Option.isSome_none, Bool.false_eq_true, if_false]
  exact wpAny_pure (q h2 fun b o hb e => e2 b o hb (sb1.extBut b o hb (Heap.get?_push_of_some _ e)))
end
end RF
end
section
set_option Elab.async false
set_option linter.all false
set_option maxRecDepth 100000
set_option maxHeartbeats 2000000
/-! While an exception is handled: zip of lists walked, a pair stored to names, a list comprehension. -/
namespace RF
open PySem PySem.Spec PyProof.Rows L2 HotX L2H

section
variable {prog : Program} {w : World} {A : Around} {E : Value → Shared → Prop} {s : Shared}
theorem hot_keep {x1 : Addr} {h h' : Heap} (hot : HotAt A x1 h) (k : ∀ o, h.get? x1 = some o → h'.get? x1 = some o) : HotAt A x1 h' := by
  obtain ⟨hh, o, vs, ho, d, c⟩ := hot
  exact ⟨hh, o, vs, k o ho, d, c⟩
theorem zip_endH {z TI TO i1 i2 l1 l2 x1 : Addr} {k1 k2 : Nat} {xs ys : Array Value} {a b : Value} {Q : Option Value → Shared → Prop} (hot : HotAt A x1 s.heap) (nz : x1 ≠ z) (nO : x1 ≠ TO) (n1 : x1 ≠ i1) (n2 : x1 ≠ i2) (D : ZipApart z TI TO i1 i2 l1 l2)
    (hz : IsZip s.heap z TI TO .none) (hTI : IsPair s.heap TI (.ref i1) (.ref i2)) (hTO : IsPair s.heap TO a b) (h1 : s.heap.IsListIter i1 l1 k1) (h2 : s.heap.IsListIter i2 l2 k2) (hl1 : s.heap.IsList l1 xs) (hl2 : s.heap.IsList l2 ys)
    (he : xs[k1]? = none ∨ ys[k2]? = none) (q : ∀ h', (∀ c o, c ≠ z → c ≠ TO → c ≠ i1 → c ≠ i2 → s.heap.get? c = some o → h'.get? c = some o) → Q none { s with heap := h' }) : wpAny (model prog w) A (pyNext (.ref z)) Q E s := by
  have ty : s.TypeIs (.ref z) "zip" := ⟨_, hz, rfl⟩
  have fin : ∀ (h' : Heap) (e : Addr), (∀ c o, c ≠ z → c ≠ TO → c ≠ i1 → c ≠ i2 → s.heap.get? c = some o → h'.get? c = some o) → (∃ o, h'.get? e = some o ∧ o.cls = .type "StopIteration") →
      wpAny (model prog w) A (do if (← isInstance (.ref e) (.type "StopIteration")) then pure (none : Option Value) else throw (.ref e)) Q E { s with heap := h' } := fun h' e k ⟨oe, ho, hc⟩ =>
    wpAny_bind (wpAny_isInstance (T := "StopIteration") (b := true) ⟨oe, ho, hc⟩ isSubtype_stop (wpAny_pure (q _ k)))
  unfold pyNext
  refine wpAny_bind (wpAny_attempt (wpAny_callSpecial?_slot (name := Str.ofString "__next__") ty F.slot_zip_next (wpAny_call_entry F.slot_zip_next ty F.entry_zip_next ?_ (F.args_zip_next_1 _))))
  show wpAny _ _ (field (.ref z) 2 >>= _) _ _ _; refine wpAny_bind (wpAny_field hz rfl (x := .bool false) rfl ?_)
  show wpAny _ _ (field (.ref z) 3 >>= _) _ _ _; refine wpAny_bind (wpAny_field hz rfl (x := .ref TI) rfl ?_)
  refine wpAny_bind (wpAny_seqItems hTI rfl ?_)
  show wpAny _ _ (Builtin.SmallTypes.ownedTupleIsFree (.ref z) >>= _) _ _ _; refine wpAny_bind ?_
  unfold Builtin.SmallTypes.ownedTupleIsFree
  refine wpAny_bind (wpAny_field hz rfl (x := .none) rfl (wpAny_pure ?_))
  simp only [if_true]
  refine wpAny_bind (wpAny_rule (wpAny_bind (wpAny_field hz rfl (x := .ref TO) rfl (wpAny_bind (wpAny_setField_rec hz (by simp) fun g1 z1 s1 => ?_)))))
  replace z1 : IsZip g1 z TI TO .ellipsis := z1
  refine wpAny_bind ?_
  simp only [List.zipIdx_cons, List.zipIdx_nil, List.forIn_cons, List.forIn_nil]
  refine wpAny_bind (wpAny_bind (wpAny_onRaise ?_))
  show wpAny _ _ (Builtin.SmallTypes.nextOf (.ref i1) >>= _) _ _ _
  have hot1 : HotAt A.in1 x1 g1 := hot_keep (A := A.in1) hot fun o e => s1.extBut _ _ nz e
  cases hx : xs[k1]? with
  | none =>
    refine wpAny_bind (nextOf_list_endH (s := { s with heap := g1 }) hot1 n1 (h1.extBut s1.extBut D.i1z) (hl1.extBut s1.extBut D.l1z) hx fun g2 e s2 ⟨oe, ho, hc⟩ => ?_)
    have z2 : IsZip g2 z TI TO .ellipsis := s2 _ _ D.i1z.symm z1
    have nez : e ≠ z := fun y => by
      subst y
      rw [z2] at ho
      cases ho
      simp at hc
    refine wpAny_setField_rec z2 (by simp) fun g3 _ s3 => ?_
    exact fin g3 e (fun c o c1 _ c3 _ y => s3.extBut _ _ c1 (s2 _ _ c3 (s1.extBut _ _ c1 y))) ⟨oe, s3.extBut _ _ nez ho, hc⟩
  | some x =>
    have hy : ys[k2]? = none := by
      rcases he with y | y
      · rw [hx] at y; cases y
      · exact y
    refine wpAny_bind (wpAny_nextOf_list_item (h1.extBut s1.extBut D.i1z) (hl1.extBut s1.extBut D.l1z) hx fun g2 _ s2 => wpAny_pure ?_)
    have TO2 : IsPair g2 TO a b := s2.extBut _ _ D.TOi1 (s1.extBut _ _ D.TOz hTO)
    refine wpAny_bind (wpAny_seqItems TO2 rfl (wpAny_bind (wpAny_updateSeq_pair TO2 fun g3 TO3 s3 => wpAny_bind (wpAny_letGo (wpAny_pure ?_)))))
    refine wpAny_bind (wpAny_bind (wpAny_onRaise ?_))
    show wpAny _ _ (Builtin.SmallTypes.nextOf (.ref i2) >>= _) _ _ _
    have hot3 : HotAt A.in1 x1 g3 := hot_keep hot1 fun o e => s3.extBut _ _ nO (s2.extBut _ _ n1 e)
    refine wpAny_bind (nextOf_list_endH (s := { s with heap := g3 }) hot3 n2 (((h2.extBut s1.extBut D.i2z).extBut s2.extBut D.i12.symm).extBut s3.extBut D.TOi2.symm)
      (((hl2.extBut s1.extBut D.l2z).extBut s2.extBut D.l2i1).extBut s3.extBut D.l2TO) hy fun g4 e s4 ⟨oe, ho, hc⟩ => ?_)
    have z4 : IsZip g4 z TI TO .ellipsis := s4 _ _ D.i2z.symm (s3.extBut _ _ D.TOz.symm (s2.extBut _ _ D.i1z.symm z1))
    have nez : e ≠ z := fun y => by
      subst y
      rw [z4] at ho
      cases ho
      simp at hc
    refine wpAny_setField_rec z4 (by simp) fun g5 _ s5 => ?_
    exact fin g5 e (fun c o c1 c2 c3 c4 y => s5.extBut _ _ c1 (s4 _ _ c4 (s3.extBut _ _ c2 (s2.extBut _ _ c3 (s1.extBut _ _ c1 y))))) ⟨oe, s5.extBut _ _ nez ho, hc⟩
end

/-! ### zip as an iterator -/
theorem turn_zipH {P : Program} {w : World} {K : PySem.W.Frag} {elts : List Expr} {kk : Nat} {tpos : Pos} {a b z TI TO i1 i2 : Addr} (D : ZipApart z TI TO i1 i2 a b) :
    TurnH P w K (.Tuple elts kk tpos) (Itz K a b) [z, TI, TO, i1, i2] z (fun i h => IsZip h z TI TO .none ∧ IsPair h TI (.ref i1) (.ref i2) ∧ (∃ x y, IsPair h TO x y) ∧ h.IsListIter i1 a i ∧ h.IsListIter i2 b i) where
  mem := by simp
  obj := (turn_zip (P := P) (w := w) (K := K) (elts := elts) (kk := kk) (tpos := tpos) D).obj
  keep := (turn_zip (P := P) (w := w) (K := K) (elts := elts) (kk := kk) (tpos := tpos) D).keep
  self := (turn_zip (P := P) (w := w) (K := K) (elts := elts) (kk := kk) (tpos := tpos) D).self
  item := by
    intro X hP hw hK _ i pins s σ H E I hf st hg
    subst hP hw hK
    obtain ⟨hz, hTI, ⟨x0, y0, hTO⟩, h1, h2⟩ := st
    obtain ⟨xs, ys, x, y, hqx, hqy, hx, hy⟩ := hg
    obtain ⟨its, rv, p, _⟩ := I.list hqx
    obtain ⟨its2, rv2, p2, _⟩ := I.list hqy
    obtain ⟨u, hu, ru⟩ := rv.get hx
    obtain ⟨u2, hu2, ru2⟩ := rv2.get hy
    have hzl : z < s.heap.objs.size := Heap.lt_size hz
    refine wpAny_pyNext_zip_item D hz hTI hTO h1 h2 p.isList p2.isList (x := u) (y := u2) (by simpa using hu) (by simpa using hu2) fun g1 z1 TO1 j1 j2 hT hsz hk => ?_
    refine ⟨_, rfl, wpAny_letOwnedTupleGo_zip (s := { s with heap := g1 }) z1 fun g2 z2 sb => ?_⟩
    have hT2 : g2.get? s.heap.objs.size = some { cls := .type "tuple", data := .seq #[u, u2] } := (sb.2 _ (Nat.ne_of_gt hzl)).trans hT
    have new : ObjOk X.prog X.w (upd H s.heap.objs.size (.tup [x, y])) g2 s.heap.objs.size (.tup [x, y]) := ⟨by show 2 ≤ sizeLine; decide, [u, u2], .cons ru (.cons ru2 .nil), ⟨_, hT2, rfl, _, rfl⟩⟩
    have notin : ∀ {c : Addr}, c ∉ [z, TI, TO, i1, i2] → c ≠ z ∧ c ≠ TO ∧ c ≠ i1 ∧ c ≠ i2 := fun {c} h => by
      simp only [List.mem_cons, not_or] at h
      exact ⟨h.1, h.2.2.1, h.2.2.2.1, h.2.2.2.2.1⟩
    have I1 : Inv X pins σ (upd H s.heap.objs.size (.tup [x, y])) { s with heap := g2 } :=
      I.turnedNew (t' := s.toks) (ch := [z, TI, TO, i1, i2]) (fun c o hb q => (sb.2 c (notin hb).1).trans (hk c o (notin hb).1 (notin hb).2.1 (notin hb).2.2.1 (notin hb).2.2.2 q)) hf (Nat.le_refl _) new
    have lt : ∀ c ∈ [z, TI, TO, i1, i2], c < s.heap.objs.size := fun c hc => by
      obtain ⟨o, ho, _⟩ := (turn_zip (P := X.prog) (w := X.w) (K := X.K) (elts := elts) (kk := kk) (tpos := tpos) D).obj i s.heap ⟨hz, hTI, ⟨x0, y0, hTO⟩, h1, h2⟩ c hc
      exact Heap.lt_size ho
    refine ⟨.ref s.heap.objs.size, _, I1, rfl, ⟨_, x, y, rfl, I.hok.fresh (Nat.le_refl _), rfl, fun l hl => ?_, fun l hl => ?_⟩, ⟨z2, (sb.2 _ D.TIz).trans (hk _ _ D.TIz D.TITO D.TIi1 D.TIi2 hTI), ⟨u, u2, (sb.2 _ D.TOz).trans TO1⟩, j1.at fun o q => (sb.2 _ D.i1z).trans q, j2.at fun o q => (sb.2 _ D.i2z).trans q⟩, fun c hc => ?_⟩
    · rw [I.list_inj hl hqx]; exact hx
    · rw [I.list_inj hl hqy]; exact hy
    · rw [upd_ne (Nat.ne_of_lt (lt c hc))]
      exact (hf c hc).1
  done := by
    intro X hP hw hK hc i pins s σ H E I hf st hg
    subst hP hw hK
    obtain ⟨hz, hTI, ⟨x0, y0, hTO⟩, h1, h2⟩ := st
    obtain ⟨xs, ys, hqx, hqy, hend⟩ := hg
    obtain ⟨its, rv, p, _⟩ := I.list hqx
    obtain ⟨its2, rv2, p2, _⟩ := I.list hqy
    have l1 := rv.length
    have l2 := rv2.length
    have he : its.toArray[i]? = none ∨ its2.toArray[i]? = none := hend.imp (fun q => by simp; omega) fun q => by simp; omega
    obtain ⟨px, ⟨hh, v1, e1, c1⟩, hp⟩ := hc
    have hot : HotAt X.A px.1 s.heap := ⟨hh, px.2, v1, (I.pin px (List.mem_append_left _ hp)).1, e1, c1⟩
    have ap : ∀ c ∈ [z, TI, TO, i1, i2], px.1 ≠ c := fun c hc => (hf c hc).2.2.2.2.2 px (List.mem_append_left _ hp)
    refine zip_endH hot (ap _ (by simp)) (ap _ (by simp)) (ap _ (by simp)) (ap _ (by simp)) D hz hTI hTO h1 h2 p.isList p2.isList he fun g1 hk => ⟨rfl, I.turnedL (t' := s.toks) (ch := [z, TI, TO, i1, i2]) (fun c o hb q => ?_) hf⟩
    simp only [List.mem_cons, not_or] at hb
    exact hk c o hb.1 hb.2.2.1 hb.2.2.2.1 hb.2.2.2.2.1 q
end RF
end
section
set_option Elab.async false
set_option linter.all false
set_option maxRecDepth 100000
set_option maxHeartbeats 2000000
/-! While an exception is handled: a list comprehension. -/
namespace RF
open PySem PySem.Spec PyProof.Rows L2 HotX L2H

def iZipH (K : PySem.W.Frag) (ta : TA) : TI := fun σ H R => ta σ H fun vs H1 => ∃ a b xs ys, vs = [.ref a, .ref b] ∧ SqL K H1 a xs ∧ SqL K H1 b ys ∧ R (Itz K a b) H1
section
variable {X : Cx}
theorem pi_zipH {e e2 : Expr} {ta : TA} {p pos tpos : Pos} {elts : List Expr} {kk : Nat} (hg : Gl X "zip") (hm : X.mg "zip" = none) (ha : PA X [e, e2] ta)
    (hs : starEach [e, e2] X.env = (false, eval e X.env) :: starEach [e2] X.env := by rfl) (hpl : (backTo pos (starEach [e2] X.env)).any (·.1) = false := by rfl) :
    PIH X (.Tuple elts kk tpos) (.Call (.Name "zip" p) [e, e2] [] pos) (iZipH X.K ta) := by
  refine ⟨fun pins s σ H R I h => ?_⟩
  refine Call_ (ld_blt I hg hm PyProof.Rows.boot_zip (PyProof.Rows.callWith_type1 (thn (ha.run pos pins s σ H _ I h) fun us s1 ⟨vs, H1, I1, r1, q1⟩ => ?_) hs hpl))
  obtain ⟨a, b, xs, ys, rfl, hqx, hqy, q⟩ := q1
  obtain _ | ⟨ra, _ | ⟨rb, _ | _⟩⟩ := r1
  cases ra
  cases rb
  obtain ⟨its, rv, p1, _⟩ := I1.list hqx
  obtain ⟨its2, rv2, p2, _⟩ := I1.list hqy
  generalize hn : s1.heap.objs.size = n
  refine call_zip_2 p1.isList p2.isList fun g hz hTI hTO h1 h2 hsz hk => wpAny_pyIter_zip hz ?_
  have I2 : Inv X pins σ H1 { s1 with heap := g } := I1.kept (t' := s1.toks) hk
  refine ⟨_, [s1.heap.objs.size + 4, s1.heap.objs.size + 2, s1.heap.objs.size + 3, s1.heap.objs.size, s1.heap.objs.size + 1], _, _, H1, rfl, I2, turn_zipH (PySem.W.ktu_apart s1.heap.objs.size a b p1.lt p2.lt), ⟨hz, hTI, ⟨_, _, hTO⟩, h1, h2⟩, fun c hc => ?_, q⟩
  have le : s1.heap.objs.size ≤ c := by
    simp only [List.mem_cons, List.not_mem_nil, or_false] at hc
    rcases hc with h | h | h | h | h <;> rw [h] <;> first | exact Nat.le_add_right _ _ | exact Nat.le_refl _
  exact I1.fpOk le (I1.hok.fresh le)
/-- (a, b, ..) = a tuple of that length -/
theorem pg_tupH {es : List Expr} {k : Nat} {t : TGs} {n : Nat} {pos : Pos} (hc : HotC X) (h : PGs X es t) (hn : (assignEach es X.env).length = n := by rfl) (hst : (assignEach es X.env).findIdx? (·.1) = none := by rfl) :
    PG X (.Tuple es k pos) (gTup X.K n t) := by
  refine ⟨fun pins s σ H v u Q I r hw => ?_⟩
  obtain ⟨a, xs, rfl, hq, hl, hw⟩ := hw
  cases r
  obtain ⟨its, rv, ht, hz⟩ := I.tuple hq
  obtain ⟨x1, hot⟩ := hc.at I
  rw [assign_Tuple]
  refine wpAny_bind (wpAny_standAt (unpackH hot ht (by simp [hn, ← hl, rv.length]) hst fun g hx => ?_))
  have I1 : Inv X pins σ H { s with heap := g } := I.kept (t' := s.toks) fun b o e => hx b o (Nat.ne_of_lt (Heap.lt_size e)) e
  exact h.run pins _ σ H xs _ Q I1 (by simpa using rv) hw
/-- the block of a comprehension, the handled exception's object known in it -/
abbrev hblk (X : Cx) (q : Addr × Obj) (s : Shared) (H : Hp) (scope : Scope) (cenv : PySem.Env) (fp : List Addr) : Cx := (X.blk s H scope cenv fp).tr [q] (fun _ _ => False)
theorem lcH {elt tg iter : Expr} {ifs : List Expr} {scope : Scope} {own : List (Str × Nat)} {pos : Pos} {wi : TI} {g : TG} {tt : TT} {te : TE} (q : Addr × Obj) (h1q : Hot1 X.A q) (hq : q ∈ X.pn) (hN : X.N.Nodup) (hi : PIH X tg iter wi) (ok : BlkOk X.N X.env.scope scope own)
    (hg : ∀ (s : Shared) (H : Hp) (C : Addr) (cl : List (Str × Addr)) (fp : List Addr), PG (hblk X q s H scope (compEnvC scope cl C X.env) fp) tg g) (ht : ∀ (s : Shared) (H : Hp) (C : Addr) (cl : List (Str × Addr)) (fp : List Addr), PTs (hblk X q s H scope (compEnvC scope cl C X.env) fp) ifs tt)
    (he : ∀ (s : Shared) (H : Hp) (C : Addr) (cl : List (Str × Addr)) (fp : List Addr), PE (hblk X q s H scope (compEnvC scope cl C X.env) fp) elt te) (hs : ∀ x, foldedSetIterable iter X.env x = pure x := by intro _; rfl) :
    PE X (.ListComp elt [⟨tg, iter, ifs, 0⟩] scope pos) (tLc wi g tt te (own.map (·.2))) := by
  refine ⟨fun pins s σ H Q I h => ?_⟩
  rw [eval_ListComp]
  have free : ∀ y ∈ scope.names, y.2 = .free → ∃ c, X.env.cells.lookup y.1 = some c := fun y hy e => (ok.free y hy e).elim (fun k => I.ok.has _ (.inl k)) fun k => I.ok.has _ (.inr k)
  refine wpAny_comprehension_free (use := none) rfl hs (closure_ok free) ok.kind (fun y hy e => by rw [ok.uniq y hy, e]) (thn (hi.run pins s σ H _ I h) fun xv s1 hx => thn hx fun itv s2 h2 => ?_)
  obtain ⟨it, fp, tn, J, H2, rfl, I2, T, st2, f2, q2⟩ := h2
  refine wpAny_newObj_type (newEnv_comp ?_) (by show 0 ≤ sizeLine; decide)
  -- the new list
  generalize hD : s2.heap.objs.size = D
  obtain ⟨W, ⟨m0, w0⟩, turn⟩ := q2 D (I2.hok.fresh (Nat.le_of_eq hD))
  generalize hs3 : ({ s2 with heap := s2.heap.push { cls := .type "list", data := .seq ([] : List Value).toArray } } : Shared) = s3
  have I3 : Inv X pins σ (upd H2 D (.lst [])) s3 := by
    subst hs3
    refine I2.laid (t' := s2.toks) (fun b o e => Heap.get?_push_of_some _ e) (Nat.le_of_eq hD) ⟨Nat.zero_le _, [], 0, .nil, ?_⟩
    subst hD
    exact Heap.get?_push_size _ rfl
  have h3 : s3.heap = s2.heap.push { cls := .type "list", data := .seq ([] : List Value).toArray } := by subst hs3; rfl
  have f3 : ∀ b ∈ fp, FpOk X pins (upd H2 D (.lst [])) b ∧ b < s3.heap.objs.size := fun b hb => by
    obtain ⟨o, e, _⟩ := T.obj _ _ st2 b hb
    have lt := Heap.lt_size e
    refine ⟨⟨?_, (f2 b hb).2⟩, ?_⟩
    · rw [upd_ne (by rw [← hD]; exact Nat.ne_of_lt lt)]
      exact (f2 b hb).1
    · rw [h3, Heap.size_push]
      exact Nat.lt_succ_of_lt lt
  have st3 : tn 0 s3.heap := T.keep _ _ _ st2 fun b _ o e => by rw [h3]; exact Heap.get?_push_of_some _ e
  have I4 := block_start I3 ok hN f3
  have P3 := I3.pin q (List.mem_append_left _ hq)
  show codeAny _ _ (.compStart (.ListComp elt [⟨tg, iter, ifs, 0⟩] scope pos) 0 (.ref it) (.ref D) (compEnvC scope (cellsFrom (s3.heap.objs.size + 1) scope.names (cloFrom X.env.cells scope.names [])) s3.heap.objs.size X.env)) (compPost (model X.prog X.w) X.A X.xe none _ (.ref D) s3.heap.objs.size) { s3 with heap := pushCells (s3.heap.push { cls := .type "dict", data := .dict #[] }) scope.names }
  have pg := hg s3 (upd H2 D (.lst [])) s3.heap.objs.size (cellsFrom (s3.heap.objs.size + 1) scope.names (cloFrom X.env.cells scope.names [])) fp
  have pt := ht s3 (upd H2 D (.lst [])) s3.heap.objs.size (cellsFrom (s3.heap.objs.size + 1) scope.names (cloFrom X.env.cells scope.names [])) fp
  have pe := he s3 (upd H2 D (.lst [])) s3.heap.objs.size (cellsFrom (s3.heap.objs.size + 1) scope.names (cloFrom X.env.cells scope.names [])) fp
  have kc : ∀ b o, s3.heap.get? b = some o → (pushCells (s3.heap.push { cls := .type "dict", data := .dict #[] }) scope.names).get? b = some o := fun b o e => pushCells_keeps _ _ _ _ (Heap.get?_push_of_some _ e)
  generalize hce : compEnvC scope (cellsFrom (s3.heap.objs.size + 1) scope.names (cloFrom X.env.cells scope.names [])) s3.heap.objs.size X.env = ce at I4 pg pt pe ⊢
  have cL : ce.locals = s3.heap.objs.size := by subst hce; rfl
  generalize hH3 : upd H2 D (.lst []) = H3 at I3 I4 pg pt pe w0 f3 P3
  generalize hs4 : ({ s3 with heap := pushCells (s3.heap.push { cls := .type "dict", data := .dict #[] }) scope.names } : Shared) = s4 at I4 ⊢
  have kc4 : ∀ b o, s3.heap.get? b = some o → s4.heap.get? b = some o := by subst hs4; exact kc
  -- the exception's object is pinned in the block
  have I4p : Inv (hblk X q s3 H3 scope ce fp) [] (wipe σ (own.map (·.2))) H3 s4 := by
    have z : Inv (X.blk s3 H3 scope ce fp) [q] (wipe σ (own.map (·.2))) H3 s4 := I4.pins_of fun p hp => by
      obtain rfl : p = q := by simpa using hp
      refine ⟨kc4 _ _ P3.1, P3.2.1, ?_, fun hm => ?_, P3.2.2.2.2⟩
      · show p.1 ≠ ce.locals
        rw [cL]
        exact Nat.ne_of_lt (Heap.lt_size P3.1)
      · exact (List.mem_cons.mp (I3.stkSub p.1 hm)).elim P3.2.2.1 P3.2.2.2.1
    exact z.toTry _
  have hot : HotC (hblk X q s3 H3 scope ce fp) := ⟨q, h1q, List.mem_cons_self⟩
  have st4 : tn 0 s4.heap := T.keep _ _ _ st3 fun b _ o e => kc4 b o e
  have stat : ∀ {σ' : L2.St} {H' : Hp} {s' : Shared}, Inv (hblk X q s3 H3 scope ce fp) [] σ' H' s' → (∀ b ∈ fp, H' b = none) → ∀ b ∈ fp, FpOk (hblk X q s3 H3 scope ce fp) [] H' b := fun {σ' H' s'} I' hn b hb =>
    ⟨hn b hb, (I'.ok.exf b hb).1, I'.ok.exfs b hb, .inl hb, fun x c e => (I'.ok.exf b hb).2 x c e, fun p hp => by
      have hp : p ∈ [q] ++ [] := hp
      obtain rfl : p = q := by simpa using hp
      exact (f3 b hb).1.2.2.2.2.2 p (List.mem_append_left _ hq)⟩
  refine codeAny_compStart_list (it := .ref it) ?_ (T.self X.A 0 _ _ _ st4 ?_)
  all_goals
    refine compLoop_any (fun n s' => ∃ i H', Inv (hblk X q s3 H3 scope ce fp) [] (wipe σ (own.map (·.2))) H' s' ∧ tn i s'.heap ∧ (∀ b ∈ fp, H' b = none) ∧ W i n H') ?_ m0 ⟨0, H3, I4p, st4, fun b hb => (f3 b hb).1.1, w0⟩
    rintro n s5 ⟨i, H5, I5, st5, n5, w5⟩
    rcases turn i n H5 w5 with ⟨stop, qq⟩ | ⟨go, Nx, hNx, step⟩
    · refine thnF (T.done (hblk X q s3 H3 scope ce fp) rfl rfl rfl hot i [] s5 _ H5 (fun _ _ => False) I5 (stat I5 n5) st5 stop) fun r s6 ⟨hr, I6⟩ => ?_
      subst hr
      have I7 : Inv X pins σ H5 s6 := I3.call' (ch := fp) I6.os I6.base I6.hok I6.bare fun b hb => ⟨(f3 b hb).1.2.2.2.1, (f3 b hb).1.2.1, (f3 b hb).1.2.2.2.2.1, (f3 b hb).1.2.2.2.2.2⟩
      obtain ⟨m, hn, _⟩ := I6.loc
      have hn : s6.heap.Ns ce.locals m := hn
      have nC : H5 ce.locals = none := I6.free
      rw [cL] at hn nC
      obtain ⟨c0, c1, c2, c3, c4, c5⟩ := I3.fpOk (Nat.le_refl _) nC
      exact ⟨m, hn, fun h'' sb => ⟨.ref D, H5, I7.turned (t' := s6.toks) (fun b o hb e => (sb.2 b hb).trans e) c0 c1 c3 c4 c5, rfl, qq⟩⟩
    · refine thnF (T.item (hblk X q s3 H3 scope ce fp) rfl rfl rfl hot i [] s5 _ H5 (fun _ _ => False) I5 (stat I5 n5) st5 go) fun r s6 ⟨u, hr, h6⟩ => ?_
      subst hr
      refine thnF h6 fun _ s7 ⟨x, H7, I7, r7, y7, st7, n7⟩ => ?_
      refine thnF (pg.run _ s7 _ H7 x u _ (I7.pinned (stat I7 n7) (T.obj _ _ st7)) r7 (step x H7 y7)) fun _ s8 ⟨σ8, H8, I8, hw8, q8⟩ => ?_
      refine thnF (pt.run _ s8 σ8 H8 _ I8 q8) fun b s9 ⟨H9, I9, q9⟩ => ?_
      have fin : ∀ {s' : Shared} {H' : Hp}, Inv (hblk X q s3 H3 scope ce fp) ([] ++ pinsAt fp s7.heap) σ8 H' s' → Nx H' → ∃ m, m < n ∧ ∃ i H', Inv (hblk X q s3 H3 scope ce fp) [] (wipe σ (own.map (·.2))) H' s' ∧ tn i s'.heap ∧ (∀ b ∈ fp, H' b = none) ∧ W i m H' := fun {s' H'} I' nx => by
        obtain ⟨m', hm, w'⟩ := hNx H' nx
        have at_ : ∀ b ∈ fp, ∀ o, s7.heap.get? b = some o → s'.heap.get? b = some o ∧ H' b = none := fun b hb o e => by
          obtain ⟨z1, z2, _⟩ := I'.pin (b, o) (List.mem_append_right _ (List.mem_append_right _ (mem_pinsAt hb e)))
          exact ⟨z1, z2⟩
        have len : (wipe σ (own.map (·.2))).length = σ8.length := by rw [← hw8, wipe_length]
        refine ⟨m', hm, i + 1, H', (I'.unpinned (pins := [])).weak len (fun j v e => ?_), T.keep _ _ _ st7 fun b hb o e => (at_ b hb o e).1, fun b hb => ?_, w'⟩
        · rw [← hw8] at e
          exact (wipe_some e).1
        · obtain ⟨o, e, _⟩ := T.obj _ _ st7 b hb
          exact (at_ b hb o e).2
      cases b with
      | false =>
        simp only [Bool.false_eq_true, if_false] at q9 ⊢
        exact fin I9 q9
      | true =>
        simp only [if_true] at q9 ⊢
        refine thnF (pe.run _ s9 σ8 H9 _ I9 q9) fun z s10 ⟨yv, H10, I10, r10, acc, hD10, hz10, nx⟩ => ?_
        exact app_ok (X := hblk X q s3 H3 scope ce fp) I10 hD10 hz10 r10 fun s11 I11 => fin I11 nx
end
end RF
end
section
set_option Elab.async false
set_option linter.all false
set_option maxRecDepth 100000
set_option maxHeartbeats 2000000
/-! The names of the classes that a handled exception is of. -/
namespace RF
open PySem PySem.Spec PyProof.Rows L2 HotX L2H

/-- isinstance of the handled exception, at any context that knows its object -/
theorem call_isH {X : Cx} {D : Addr} {q : Addr × Obj} (C : ExcC X.K D) (hz : Zc (.ref D) none q.2) (hf : ∃ vs, q.2.data = .fields vs) (hq : q ∈ X.pn) : CallR X (.builtin "isinstance") (rIsE X.K D q.1) := by
  intro pins s σ H xs us Q I r h
  obtain ⟨c, cv, b, rfl, hcv, e, p⟩ := h
  obtain _ | ⟨rx, _ | ⟨rt, _ | _⟩⟩ := r
  cases rx
  have ec := hcv _ rt
  subst ec
  obtain ⟨vs, hv⟩ := hf
  have J : PySem.W.InstAt s.heap q.1 q.2 D none := by
    have hget := (I.pin q (List.mem_append_left _ hq)).1
    obtain ⟨a, oc, od, oda, osl⟩ := q
    obtain ⟨rfl, rfl⟩ := hz
    cases (show oda = _ from hv)
    exact ⟨hget, rfl, rfl, trivial⟩
  exact PySem.W.kia_one (PySem.W.handS_kitx_exc C.hg C.hk C.hs C.hd C.ha C.hn C.ht C.hm) I.kIn J e (fun z => nomatch z) fun tk => ⟨.bl b, H, I.kept (t' := tk) fun _ _ z => z, rfl, p⟩
/-- what is known of the exception's class -/
structure KinF (K : PySem.W.Frag) (mg : Str → Option Value) (D : Addr) (f : Str → Bool) : Prop where
  ec : ExcC K D
  is0 : mg "isinstance" = none
  zip0 : mg "zip" = none
  one : ∀ x ∈ kinX, (∃ C, mg x = some (.ref C) ∧ PySem.W.kitOne K (.ref D) (.ref C) = some (f x)) ∨ (x = ("ValueError" : Str) ∧ mg x = none ∧ PySem.W.kitOne K (.ref D) (.type "ValueError") = some (f x))
section
variable {X : Cx} {q : Addr × Obj} {D : Addr} {f : Str → Bool} {sc : Scope}
def tIsL (q : Addr × Obj) (bs : List V) : TA := fun σ H Q => σ[0]? = some (some (.ref q.1)) ∧ Q bs H
def isOnes (e : Str) (sc : Scope) : List Expr → List Str → Bool
  | [], ys => ys.isEmpty
  | p :: ps, ys => (match p, ys with
    | .Call (.Name g _) [.Name z _, .Name x _] [] _, y :: r => decide (g = ("isinstance" : Str)) && (decide (z = e) && (decide (x = y) && (decide (sc.names.lookup x = some .globalImplicit) && (!(x == ("__debug__" : Str)) && isOnes e sc ps r))))
    | _, _ => false)
theorem bv : bootBuiltins "ValueError" = some (.type "ValueError") := by kernel_rfl
theorem bis : bootBuiltins "isinstance" = some (.builtin "isinstance") := by kernel_rfl
theorem and2 {a b : Bool} (h : (a && b) = true) : a = true ∧ b = true := Bool.and_eq_true_iff.mp h
theorem decT' {p : Prop} [Decidable p] (h : decide p = true) : p := of_decide_eq_true h
theorem isOnes_ok {e : Str} (hK : KinF X.K X.mg D f) (hz : Zc (.ref D) none q.2) (hf : ∃ vs, q.2.data = .fields vs) (hq : q ∈ X.pn) (hs : X.env.scope = sc) (hg : sc.names.lookup ("isinstance" : Str) = some .globalImplicit) (hN : X.N[0]? = some e) (hv : Vis sc e)
    (hd : (e == ("__debug__" : Str)) = false) (hc : (e == ("__classdict__" : Str)) = false) : ∀ {ps : List Expr} {ys : List Str}, (∀ y ∈ ys, y ∈ kinX) → isOnes e sc ps ys = true → PA X ps (tIsL q (ys.map fun y => V.bl (f y)))
  | [], ys, _, h => by
    unfold isOnes at h
    cases ys with
    | nil => exact ⟨fun pos pins s σ H Q I ⟨_, w⟩ => (pa_nil (X := X)).run pos pins s σ H Q I w⟩
    | cons => cases h
  | p :: ps, ys, hy, h => by
    unfold isOnes at h
    split at h
    · rename_i g p1 z p2 x p3 p4 y r
      simp only [Bool.and_eq_true] at h
      obtain ⟨h1, h2, h3, h4, h5, h6⟩ := h
      cases decT' h1
      cases decT' h2
      cases decT' h3
      have ih := isOnes_ok hK hz hf hq hs hg hN hv hd hc (ps := ps) (ys := r) (fun y m => hy y (List.mem_cons_of_mem _ m)) h6
      have gi : Gl X ("isinstance" : Str) := by show X.env.scope.names.lookup _ = _; rw [hs]; exact hg
      have gx : Gl X x := by show X.env.scope.names.lookup _ = _; rw [hs]; exact decT' h4
      have nx : (x == ("__debug__" : Str)) = false := by simpa using h5
      have pvE : PE X (.Name e p2) (tVar 0) := pe_var hN (by rw [hs]; exact hv) hd hc
      have one : PE X (.Call (.Name "isinstance" p1) [.Name e p2, .Name x p3] [] p4) (fun σ H Q => σ[0]? = some (some (.ref q.1)) ∧ Q (.bl (f x)) H) := by
        rcases hK.one x (hy x List.mem_cons_self) with ⟨C, m, kk⟩ | ⟨rfl, m, kk⟩
        · refine (pe_callB (call_isH hK.ec hz hf hq) gi hK.is0 bis (pa_cons pvE (pa_cons (pe_glob gx m (v := .ref C) rfl nx) pa_nil))).imp fun σ H Q ⟨w1, w2⟩ => ?_
          exact ⟨_, w1, .ref C, .ref C, f x, rfl, fun u ru => ru, kk, w2⟩
        · refine (pe_callB (call_isH hK.ec hz hf hq) gi hK.is0 bis (pa_cons pvE (pa_cons (pe_bltn gx m bv (v := .ty "ValueError") rfl) pa_nil))).imp fun σ H Q ⟨w1, w2⟩ => ?_
          exact ⟨_, w1, .ty "ValueError", .type "ValueError", _, rfl, fun u ru => ru, kk, w2⟩
      exact (pa_cons one ih).imp fun σ H Q ⟨w1, w2⟩ => ⟨w1, w1, w2⟩
    · cases h
end
end RF
end
section
set_option Elab.async false
set_option linter.all false
set_option maxRecDepth 100000
set_option maxHeartbeats 2000000
/-! The def that tells the names of the classes of a handled exception: its body. -/
namespace RF
open PySem PySem.Spec PyProof.Rows L2 HotX L2H

theorem wipe_in {σ : L2.St} {i : Nat} : ∀ {vs : List Nat}, i ∈ vs → (wipe σ vs)[i]? = if i < σ.length then some none else none
  | v :: vs, h => by
    unfold wipe
    by_cases hv : v = i
    · subst hv
      split
      · rename_i hi
        exact List.getElem?_set_self (by rw [wipe_length]; exact hi)
      · rename_i hi
        exact List.getElem?_eq_none (by rw [List.length_set, wipe_length]; omega)
    · rw [List.getElem?_set_ne hv]
      exact wipe_in ((List.mem_cons.mp h).resolve_left fun z => hv z.symm)
theorem wipe_eq {σ σ' : L2.St} {vs : List Nat} (hl : σ'.length = σ.length) (h : ∀ i, i ∉ vs → σ'[i]? = σ[i]?) : wipe σ' vs = wipe σ vs := by
  apply List.ext_getElem?
  intro i
  by_cases hi : i ∈ vs
  · rw [wipe_in hi, wipe_in hi, hl]
  · rw [wipe_out hi, wipe_out hi, h i hi]
def kinN : List Str := ["_law_e", "_law_kinds_met", "_law_names", "_law_name", "_law_good"]
def SameH (H H' : Hp) : Prop := ∀ a o, H a = some o → H' a = some o
/-- the slots while the list of answers grows -/
structure KinS (q : Addr × Obj) (H0 : Hp) (bs : List V) (σ : L2.St) (H : Hp) : Prop where
  len : σ.length = 5
  e : σ[0]? = some (some (.ref q.1))
  at_ : ∃ a, σ[1]? = some (some (.ref a)) ∧ H a = some (.lst bs)
  same : SameH H0 H
/-- met = met + [isinstance(..), ..] -/
def isAdd (sc : Scope) (p : Stmt) (ys : List Str) : Bool := match p with
  | .Assign [.Name x _] (.BinOp (.Name y _) .Add (.List es _) _) _ => decide (x = ("_law_kinds_met" : Str)) && (decide (y = ("_law_kinds_met" : Str)) && isOnes "_law_e" sc es ys)
  | _ => false
def isFirst (sc : Scope) (p : Stmt) (ys : List Str) : Bool := match p with
  | .Assign [.Name x _] (.List es _) _ => decide (x = ("_law_kinds_met" : Str)) && isOnes "_law_e" sc es ys
  | _ => false
def isNames (p : Stmt) : Bool := match p with
  | .Assign [.Name x _] (.Constant (.str w) _ _) _ => decide (x = ("_law_names" : Str)) && decide (w = kinWords)
  | _ => false
def kinOwn : List (Str × Nat) := [("_law_name", 3), ("_law_good", 4)]
def isTell (sc : Scope) (p : Stmt) : Bool := match p with
  | .Return (some (.Call (.Attribute (.Constant (.str b) _ _) j ap) [.ListComp (.Name x1 _) [⟨.Tuple [.Name x2 _, .Name x3 _] _ _, .Call (.Name z _) [.Call (.Attribute (.Name n _) s ap2) [.Constant (.str b2) _ _] [] cp2, .Name m _] [] _, [.Name x4 _], as⟩] scope _] [] cp)) _ =>
    decide (b = (" " : Str)) && (decide (j = ("join" : Str)) && ((ap.endLine == cp.line) && (decide (x1 = ("_law_name" : Str)) && (decide (x2 = ("_law_name" : Str)) && (decide (x3 = ("_law_good" : Str)) && (decide (z = ("zip" : Str)) && (decide (n = ("_law_names" : Str)) &&
      (decide (s = ("split" : Str)) && ((ap2.endLine == cp2.line) && (decide (b2 = (" " : Str)) && (decide (m = ("_law_kinds_met" : Str)) && (decide (x4 = ("_law_good" : Str)) && (decide (as = 0) && (blkC kinN sc scope kinOwn &&
      (decide ((relS scope sc).names.lookup ("_law_name" : Str) = some .local) && decide ((relS scope sc).names.lookup ("_law_good" : Str) = some .local))))))))))))))))
  | _ => false
def loc3 (sc : Scope) : Bool := decide (sc.names.lookup ("_law_e" : Str) = some .local) && (decide (sc.names.lookup ("_law_kinds_met" : Str) = some .local) && (decide (sc.names.lookup ("_law_names" : Str) = some .local) && (decide (sc.names.lookup ("isinstance" : Str) = some .globalImplicit) && decide (sc.names.lookup ("zip" : Str) = some .globalImplicit))))
def isKin (sc : Scope) (ps : List Stmt) : Bool := match ps with
  | [p1, p2, p3, p4, p5, p6, p7] => loc3 sc && (isFirst sc p1 (kinX.take 3) && (isAdd sc p2 ((kinX.drop 3).take 3) && (isAdd sc p3 ((kinX.drop 6).take 3) && (isAdd sc p4 ((kinX.drop 9).take 3) && (isAdd sc p5 (kinX.drop 12) && (isNames p6 && isTell sc p7))))))
  | _ => false
section
variable {X : Cx} {q : Addr × Obj} {D : Addr} {f : Str → Bool} {sc : Scope}
structure KinC (X : Cx) (q : Addr × Obj) (D : Addr) (f : Str → Bool) (sc : Scope) : Prop where
  hN : X.N = kinN
  hs : X.env.scope = sc
  k : KinF X.K X.mg D f
  zc : Zc (.ref D) none q.2
  fl : ∃ vs, q.2.data = .fields vs
  mem : q ∈ X.pn
  hot : Hot1 X.A q
  l : loc3 sc = true
theorem KinC.ones (c : KinC X q D f sc) {ps : List Expr} {ys : List Str} (hy : ∀ y ∈ ys, y ∈ kinX) (h : isOnes "_law_e" sc ps ys = true) : PA X ps (tIsL q (ys.map fun y => V.bl (f y))) := by
  have l := c.l
  simp only [loc3, Bool.and_eq_true] at l
  exact isOnes_ok c.k c.zc c.fl c.mem c.hs (decT' l.2.2.2.1) (by rw [c.hN]; rfl) (.inl (decT' l.1)) (by decide +kernel) (by decide +kernel) hy h
theorem KinC.nd (c : KinC X q D f sc) : X.N.Nodup := by rw [c.hN]; decide +kernel
theorem KinC.at1 (c : KinC X q D f sc) : X.N[1]? = some ("_law_kinds_met" : Str) ∧ X.env.scope.names.lookup ("_law_kinds_met" : Str) = some .local := by
  have l := c.l
  simp only [loc3, Bool.and_eq_true] at l
  exact ⟨by rw [c.hN]; rfl, by rw [c.hs]; exact decT' l.2.1⟩
theorem KinC.at2 (c : KinC X q D f sc) : X.N[2]? = some ("_law_names" : Str) ∧ X.env.scope.names.lookup ("_law_names" : Str) = some .local := by
  have l := c.l
  simp only [loc3, Bool.and_eq_true] at l
  exact ⟨by rw [c.hN]; rfl, by rw [c.hs]; exact decT' l.2.2.1⟩
theorem kin_first (c : KinC X q D f sc) {p : Stmt} {ys : List Str} (hy : ∀ y ∈ ys, y ∈ kinX) (hl : ys.length ≤ 20) (h : isFirst sc p ys = true) :
    PS X p (fun E σ H => σ.length = 5 ∧ σ[0]? = some (some (.ref q.1)) ∧ ∀ σ' H', KinS q H (ys.map fun y => V.bl (f y)) σ' H' → E.nx σ' H') := by
  unfold isFirst at h
  split at h
  · rename_i x px es pe pos
    simp only [Bool.and_eq_true] at h
    obtain ⟨h1, h2⟩ := h
    cases decT' h1
    obtain ⟨n1, l1⟩ := c.at1
    refine (ps_set (i := 1) c.nd n1 (.inl l1) (pe_lst (c.ones hy h2)) rfl (.inr l1)).imp fun E σ H ⟨w1, w2, w3⟩ => ?_
    refine ⟨w2, by rw [List.length_map]; exact Nat.le_trans hl (by decide), fun a na => w3 _ _ ⟨by rw [List.length_set]; exact w1, ?_, ⟨a, List.getElem?_set_self (by omega), upd_same⟩, fun b o e => ?_⟩⟩
    · rw [List.getElem?_set_ne (by decide)]; exact w2
    · rw [upd_ne (ne_of_none e na)]; exact e
  · cases h
theorem kin_add (c : KinC X q D f sc) {p : Stmt} {ys : List Str} (hy : ∀ y ∈ ys, y ∈ kinX) (hl : ys.length ≤ 20) (h : isAdd sc p ys = true) :
    PS X p (fun E σ H => ∃ H0 bs, KinS q H0 bs σ H ∧ bs.length ≤ 20 ∧ ∀ σ' H', KinS q H0 (bs ++ ys.map fun y => V.bl (f y)) σ' H' → E.nx σ' H') := by
  unfold isAdd at h
  split at h
  · rename_i x px y py es pe pb pos
    simp only [Bool.and_eq_true] at h
    obtain ⟨h1, h2, h3⟩ := h
    cases decT' h1
    cases decT' h2
    obtain ⟨n1, l1⟩ := c.at1
    refine (ps_set (i := 1) c.nd n1 (.inl l1) (pe_op op_cat (pe_var n1 (.inl l1) (by decide +kernel) (by decide +kernel)) (pe_lst (c.ones hy h3))) rfl (.inr l1)).imp fun E σ H ⟨H0, bs, S, bl, w3⟩ => ?_
    obtain ⟨a, a1, a2⟩ := S.at_
    refine ⟨_, a1, S.e, by rw [List.length_map]; exact Nat.le_trans hl (by decide), fun b nb => ⟨a, b, bs, _, rfl, rfl, ?_, upd_same, ?_, fun d nd => w3 _ _ ⟨by rw [List.length_set]; exact S.len, ?_, ⟨d, List.getElem?_set_self (by rw [S.len]; decide), upd_same⟩, fun e o z => ?_⟩⟩⟩
    · rw [upd_ne (ne_of_none a2 nb)]; exact a2
    · rw [List.length_map]
      have : (40 : Nat) ≤ sizeLine := by decide
      omega
    · rw [List.getElem?_set_ne (by decide)]; exact S.e
    · have z1 := S.same e o z
      have z2 : upd H b (.lst (ys.map fun y => V.bl (f y))) e = some o := by rw [upd_ne (ne_of_none z1 nb)]; exact z1
      rw [upd_ne (ne_of_none z2 nd)]; exact z2
  · cases h
theorem kin_names (c : KinC X q D f sc) {p : Stmt} (h : isNames p = true) : PS X p (fun E σ H => ∃ H0 bs, KinS q H0 bs σ H ∧ ∀ σ', KinS q H0 bs σ' H → σ'[2]? = some (some (.str kinWords)) → E.nx σ' H) := by
  unfold isNames at h
  split at h
  · simp only [Bool.and_eq_true] at h
    obtain ⟨h1, h2⟩ := h
    cases decT' h1
    cases decT' h2
    obtain ⟨n1, l1⟩ := c.at2
    refine (ps_set (i := 2) c.nd n1 (.inl l1) pe_str rfl (.inr l1)).imp fun E σ H ⟨H0, bs, S, w⟩ => ?_
    refine w _ ⟨by rw [List.length_set]; exact S.len, ?_, ?_, S.same⟩ (List.getElem?_set_self (by rw [S.len]; decide))
    · rw [List.getElem?_set_ne (by decide)]; exact S.e
    · obtain ⟨a, a1, a2⟩ := S.at_
      exact ⟨a, by rw [List.getElem?_set_ne (by decide)]; exact a1, a2⟩
  · cases h
/-- the words of those that are true, so far -/
def told (ws : List Str) (bs : List Bool) (i : Nat) : List V := ((((ws.zip bs).take i).filter (·.2)).map (·.1)).map V.str
theorem told_succ {ws : List Str} {bs : List Bool} {i : Nat} {x : Str} {b : Bool} (hx : ws[i]? = some x) (hb : bs[i]? = some b) : told ws bs (i + 1) = if b = true then told ws bs i ++ [V.str x] else told ws bs i := by
  have e : (ws.zip bs).take (i + 1) = (ws.zip bs).take i ++ [(x, b)] := by
    rw [List.take_succ]
    have : (ws.zip bs)[i]? = some (x, b) := by
      rw [List.getElem?_zip_eq_some]; exact ⟨hx, hb⟩
    rw [this]; rfl
  unfold told
  rw [e]
  cases b <;> simp
end
end RF
end
section
set_option Elab.async false
set_option linter.all false
set_option maxRecDepth 100000
set_option maxHeartbeats 2000000
/-! .. told, and the def called. -/
namespace RF
open PySem PySem.Spec PyProof.Rows L2 HotX L2H

theorem told_le (ws : List Str) (bs : List Bool) (i : Nat) : (told ws bs i).length ≤ ws.length := by
  unfold told
  rw [List.length_map, List.length_map]
  refine Nat.le_trans (List.length_filter_le _ _) ?_
  rw [List.length_take, List.length_zip]
  omega
theorem told_all (ws : List Str) (bs : List Bool) {n : Nat} (h : ws.length ≤ n) : told ws bs n = (((ws.zip bs).filter (·.2)).map (·.1)).map V.str := by
  unfold told
  rw [List.take_of_length_le (by rw [List.length_zip]; omega)]
theorem kin_ws : (Txt.split kinWords " ").length = 15 := by decide +kernel
theorem join_le (f : Str → Bool) : (((((Txt.split kinWords " ").zip (kinX.map f)).filter (·.2)).map (·.1)).map (·.length)).sum + ((((Txt.split kinWords " ").zip (kinX.map f)).filter (·.2)).map (·.1)).length * (Str.ofString " ").length ≤ 16777216 := by
  have sum_le : ∀ l : List (Str × Bool), (((l.filter (·.2)).map (·.1)).map (·.length)).sum + ((l.filter (·.2)).map (·.1)).length * 1 ≤ (l.map (fun p => p.1.length + 1)).sum := fun l => by
    induction l with
    | nil => simp
    | cons p r ih =>
      obtain ⟨w, b⟩ := p
      cases b <;> simp at ih ⊢ <;> omega
  have e1 : (Str.ofString " ").length = 1 := by decide +kernel
  rw [e1]
  refine Nat.le_trans (sum_le _) ?_
  have e2 : ((Txt.split kinWords " ").map (fun w => w.length + 1)).sum ≤ 16777216 := by decide +kernel
  have e3 : ∀ (ws : List Str) (bs : List Bool), ((ws.zip bs).map (fun p => p.1.length + 1)).sum ≤ (ws.map (fun w => w.length + 1)).sum := fun ws => by
    induction ws with
    | nil => intro bs; simp
    | cons w r ih =>
      intro bs
      cases bs with
      | nil => simp
      | cons b t => have := ih t; simp at this ⊢; omega
  exact Nat.le_trans (e3 _ _) e2
section
variable {X : Cx} {q : Addr × Obj} {D : Addr} {f : Str → Bool} {sc : Scope}
theorem kin_tell (c : KinC X q D f sc) {p : Stmt} (h : isTell sc p = true) :
    PS X p (fun E σ H => ∃ H0, KinS q H0 (kinX.map fun y => V.bl (f y)) σ H ∧ σ[2]? = some (some (.str kinWords)) ∧ ∀ H', SameH H0 H' → E.rt (.str (kinT f)) H') := by
  unfold isTell at h
  split at h
  · rename_i b _ _ j ap x1 _ x2 _ x3 _ _ _ z _ n _ s ap2 b2 _ _ cp2 m _ _ x4 _ as scope _ cp pos
    simp only [Bool.and_eq_true] at h
    obtain ⟨h1, h2, h3, h4, h5, h6, h7, h8, h9, h10, h11, h12, h13, h14, h15, h16, h17⟩ := h
    cases decT' h1
    cases decT' h2
    cases decT' h4
    cases decT' h5
    cases decT' h6
    cases decT' h7
    cases decT' h8
    cases decT' h9
    cases decT' h11
    cases decT' h12
    cases decT' h13
    cases decT' h14
    obtain ⟨n1, l1⟩ := c.at1
    obtain ⟨n2, l2⟩ := c.at2
    have gz : Gl X ("zip" : Str) := by
      have l := c.l
      simp only [loc3, Bool.and_eq_true] at l
      show X.env.scope.names.lookup _ = _
      rw [c.hs]; exact decT' l.2.2.2.2
    have nm : ∀ (s : Shared) (H : Hp) (C : Addr) (cl : List (Str × Addr)) (fp : List Addr) (x : Str), (relS scope sc).names.lookup x = some .local → (hblk X q s H scope (compEnvC scope cl C X.env) fp).env.scope.names.lookup x = some .local := fun s H C cl fp x e => by
      show (relS scope X.env.scope).names.lookup x = some .local
      rw [c.hs]; exact e
    have hot : ∀ (s : Shared) (H : Hp) (C : Addr) (cl : List (Str × Addr)) (fp : List Addr), HotC (hblk X q s H scope (compEnvC scope cl C X.env) fp) := fun s H C cl fp => ⟨q, c.hot, List.mem_cons_self⟩
    refine (ps_ret (pe_join pe_str (lcH (X := X) (own := kinOwn) (g := gTup X.K 2 (gCons (gName 3) (gCons (gName 4) gNil))) (tt := tB (tVar 4)) (te := tVar 3) (tg := .Tuple [.Name "_law_name" _, .Name "_law_good" _] _ _) q c.hot c.mem c.nd (pi_zipH gz c.k.zip0 (pa_cons (pe_m1 F.slot_str_split F.type_str_split mt_split (pe_var n2 (.inl l2) (by decide +kernel) (by decide +kernel)) pe_str rfl rfl h10) (pa_cons (pe_var n1 (.inl l1) (by decide +kernel) (by decide +kernel)) pa_nil)))
      (ok := by rw [c.hN, c.hs]; exact blkOk_by h15)
      (hg := fun s H C cl fp => pg_tupH (hot s H C cl fp) (pgs_cons (pg_name (i := 3) c.nd (by show X.N[3]? = _; rw [c.hN]; rfl) (.inl (nm s H C cl fp _ (decT' h16))) (.inr (nm s H C cl fp _ (decT' h16))))
        (pgs_cons (pg_name (i := 4) c.nd (by show X.N[4]? = _; rw [c.hN]; rfl) (.inl (nm s H C cl fp _ (decT' h17))) (.inr (nm s H C cl fp _ (decT' h17)))) pgs_nil)) (n := 2) rfl rfl)
      (ht := fun s H C cl fp => pts_one (pt_val (pe_var (i := 4) (by show X.N[4]? = _; rw [c.hN]; rfl) (.inl (nm s H C cl fp _ (decT' h17))) (by decide +kernel) (by decide +kernel))))
      (he := fun s H C cl fp => pe_var (i := 3) (by show X.N[3]? = _; rw [c.hN]; rfl) (.inl (nm s H C cl fp _ (decT' h16))) (by decide +kernel) (by decide +kernel)) (hs := fun _ => rfl)) rfl rfl h3)).imp fun E σ H ⟨H0, S, w2, fin⟩ => ?_
    obtain ⟨a, a1, a2⟩ := S.at_
    refine ⟨⟨_, rfl⟩, ?_⟩
    refine ⟨.str kinWords, w2, ⟨_, rfl⟩, ⟨kinWords, " ", rfl, rfl, by decide +kernel, by decide +kernel, fun b nb => ?_⟩⟩
    generalize hws : Txt.split kinWords " " = ws at *
    have lw : ws.length = 15 := by rw [← hws]; exact kin_ws
    generalize hbs : kinX.map f = bs at *
    have eb : (kinX.map fun y => V.bl (f y)) = bs.map V.bl := by rw [← hbs, List.map_map]; rfl
    rw [eb] at a2
    have lb : bs.length = 15 := by rw [← hbs]; simp [kinX]
    have ab : a ≠ b := ne_of_none a2 nb
    generalize hH1 : upd H b (.lst (ws.map V.str)) = H1
    have b1 : H1 b = some (.lst (ws.map V.str)) := by rw [← hH1]; exact upd_same
    have a3 : H1 a = some (.lst (bs.map V.bl)) := by rw [← hH1, upd_ne ab]; exact a2
    have sm1 : SameH H0 H1 := fun e o z => by
      have z1 := S.same e o z
      rw [← hH1, upd_ne (ne_of_none z1 nb)]; exact z1
    refine ⟨.ref a, a1, b, a, _, _, rfl, .inl (.inl b1), .inl (.inl a3), ?_⟩
    intro R nR
    refine ⟨fun i m H' => i ≤ 15 ∧ m = 15 - i ∧ SameH H1 H' ∧ H' R = some (.lst (told ws bs i)), ⟨15, by omega, rfl, fun e o z => by rw [upd_ne (ne_of_none z nR)]; exact z, by rw [upd_same]; unfold told; simp⟩, ?_⟩
    rintro i m H' ⟨hi, rfl, sm, hR⟩
    have ko : kinOwn.map (·.2) = [3, 4] := rfl
    simp only [ko]
    have b' := sm _ _ b1
    have a' := sm _ _ a3
    by_cases hlt : i < 15
    · right
      obtain ⟨x, hx⟩ : ∃ x, ws[i]? = some x := ⟨_, List.getElem?_eq_getElem (by omega)⟩
      obtain ⟨y, hy⟩ : ∃ y, bs[i]? = some y := ⟨_, List.getElem?_eq_getElem (by omega)⟩
      have hx' : (ws.map V.str)[i]? = some (.str x) := by rw [List.getElem?_map, hx]; rfl
      have hy' : (bs.map V.bl)[i]? = some (.bl y) := by rw [List.getElem?_map, hy]; rfl
      refine ⟨⟨_, _, _, _, .inl (.inl b'), .inl (.inl a'), hx', hy'⟩, fun H2 => SameH H1 H2 ∧ H2 R = some (.lst (told ws bs (i + 1))), fun H2 ⟨s2, r2⟩ => ⟨15 - (i + 1), by omega, by omega, rfl, s2, r2⟩, ?_⟩
      rintro v H2 ⟨T, x2, y2, rfl, nT, rfl, tx, ty⟩
      have ex := tx _ (.inl (.inl b'))
      have ey := ty _ (.inl (.inl a'))
      rw [hx'] at ex
      rw [hy'] at ey
      cases ex
      cases ey
      refine ⟨T, [.str x, .bl y], rfl, .inl (.inl upd_same), rfl, .str x, [.bl y], rfl, .bl y, [], rfl, rfl, ?_⟩
      have lw3 : (wipe σ [3, 4]).length = 5 := by rw [wipe_length]; exact S.len
      refine ⟨wipe_eq (by rw [List.length_set, List.length_set, wipe_length]) fun k hk => ?_, .bl y, ?_, y, rfl, ?_⟩
      · have hk2 := hk
        simp only [List.mem_cons, List.not_mem_nil, or_false, not_or] at hk2
        rw [List.getElem?_set_ne (by omega), List.getElem?_set_ne (by omega), wipe_out hk]
      · exact List.getElem?_set_self (by rw [List.length_set]; omega)
      · have smT : SameH H1 (upd H' T (.tup [.str x, .bl y])) := fun e o z => by
          have z1 := sm e o z
          rw [upd_ne (ne_of_none z1 nT)]; exact z1
        have hRT : (upd H' T (.tup [.str x, .bl y])) R = some (.lst (told ws bs i)) := by rw [upd_ne (ne_of_none hR nT)]; exact hR
        have sc := told_succ hx hy
        cases y with
        | true =>
          refine ⟨.str x, ?_, told ws bs i, hRT, ?_, fun e o z => ?_, ?_⟩
          · rw [List.getElem?_set_ne (by decide)]
            exact List.getElem?_set_self (by omega)
          · have := told_le ws bs i
            have : (20 : Nat) < sizeLine := by decide
            omega
          · rw [upd_ne fun y => ?_]
            · exact smT e o z
            · rw [y, ← hH1] at z
              rw [← hH1, z] at nR
              cases nR
          · rw [upd_same, sc]; rfl
        | false => exact ⟨smT, by rw [hRT, sc]; rfl⟩
    · left
      have : i = 15 := by omega
      subst this
      refine ⟨⟨_, _, .inl (.inl b'), .inl (.inl a'), .inl (by rw [List.length_map]; omega)⟩, " ", R, ((ws.zip bs).filter (·.2)).map (·.1), rfl, rfl, .inl (.inl (.inl ?_)), ?_, ?_⟩
      · rw [hR, told_all ws bs (by omega)]
      · have := join_le f
        rw [hws, hbs] at this
        exact this
      · have e : kinT f = Txt.join " " (((ws.zip bs).filter (·.2)).map (·.1)) := by unfold kinT; rw [hws, hbs]
        rw [← e]
        exact fin H' fun e o z => sm e o (sm1 e o z)
  · cases h
/-- the whole body -/
theorem kin_body (c : KinC X q D f sc) {ps : List Stmt} (h : isKin sc ps = true) :
    PSs X ps (fun E σ H => σ.length = 5 ∧ σ[0]? = some (some (.ref q.1)) ∧ ∀ H', SameH H H' → E.rt (.str (kinT f)) H') := by
  unfold isKin at h
  split at h
  · simp only [Bool.and_eq_true] at h
    obtain ⟨_, h1, h2, h3, h4, h5, h6, h7⟩ := h
    have mk : ∀ (n m : Nat), ∀ y ∈ (kinX.drop n).take m, y ∈ kinX := fun n m y hy => List.mem_of_mem_drop (List.mem_of_mem_take hy)
    have le : ∀ (n m : Nat), ((kinX.drop n).take m).length ≤ 20 := fun n m => by
      rw [List.length_take, List.length_drop]
      have : kinX.length = 15 := rfl
      omega
    refine (pss_cons (kin_first c (fun y hy => List.mem_of_mem_take hy) (by decide) h1) (pss_cons (kin_add c (mk 3 3) (le 3 3) h2) (pss_cons (kin_add c (mk 6 3) (le 6 3) h3) (pss_cons (kin_add c (mk 9 3) (le 9 3) h4)
      (pss_cons (kin_add c (fun y hy => List.mem_of_mem_drop hy) (by decide) h5) (pss_cons (kin_names c h6) (pss_one (kin_tell c h7)))))))).imp fun E σ H ⟨w1, w2, fin⟩ => ?_
    refine ⟨w1, w2, fun s1 H1 S1 => ⟨H, _, S1, by simp [kinX], fun s2 H2 S2 => ⟨H, _, S2, by simp [kinX], fun s3 H3 S3 => ⟨H, _, S3, by simp [kinX], fun s4 H4 S4 => ⟨H, _, S4, by simp [kinX], fun s5 H5 S5 => ⟨H, _, S5, fun s6 S6 e6 => ⟨H, S6, e6, fin⟩⟩⟩⟩⟩⟩⟩
  · cases h
end
end RF
end
section
set_option Elab.async false
set_option linter.all false
set_option maxRecDepth 100000
set_option maxHeartbeats 2000000
/-! The call of that def within an except suite; try with several «except .. as e». -/
namespace RF
open PySem PySem.Spec PyProof.Rows L2 HotX L2H

/-- a def called while q's exception is handled -/
theorem runH {CXg : CXT} {P : Program} {w : World} {K : PySem.W.Frag} {mg : Str → Option Value} {base : Heap} {k : Nat} {f : Addr} {name qual : Str} {params : Arguments} {body : List Stmt} {scope : Scope} {dV kV doc pm cdv ct oc : Value} {an od : Option Addr}
    {osl : Array (Option Value)} {N ps : List Str} {A : Around} {outer : List PySem.Env} {s : Shared} {H : Hp} {args : Args} {us : List Value} {vs : List V} {Q : VK} {E : XK} {q : Addr × Obj}
    (lk : K.lookup f = some ⟨oc, od, .func (PySem.W.fnOf name qual params body scope dV kV doc pm an cdv ct), osl⟩) (hcd : PySem.W.codeIn K cdv qual = true) (S : FnScope N ps scope) (hr : RoomH (k + 1) A) (hot : Hot1 A q) (hpin : PinOk outer H s q)
    (e0 : Env0 P w K mg base A outer s H) (hb : BindsTo s (PySem.W.fnOf name qual params body scope dV kV doc pm an cdv ct) args (ps.zip us)) (r : Vals vs us) (hl : vs.length = ps.length)
    (hbody : ∃ t, PSs (cxH CXg P w K mg base N qual scope f cdv A outer s H E q) body t ∧ t { nx := fun _ H' => Q .non H', rt := Q } (L2.start N vs) H) : codeAny (model P w) A (.call (.ref f) args) (CR CXg outer P w H s Q E) s := by
  have KX : K.In s.heap := e0.mod.kin.keeps fun b o e => (e0.bs b o e).1
  refine codeAny_call_function hr.depth (KX _ _ lk) rfl S.co S.gen rfl (PySem.W.codeRec_of KX hcd) (hb _ _ _ _ (wpAny_newFunctionEnv_cells S.kind (fun y hy => ?_) fun env he s1 x => ?_))
  · obtain ⟨n, v⟩ := y
    exact (S.par n (List.of_mem_zip hy).1).imp id fun z => ⟨z, PySem.W.cellsFrom_some _ _ _ (.inl z)⟩
  · subst he
    refine ⟨(e0.mod.nolimit.keeps fun b o e => (e0.bs b o e).1).keeps x.toInCall.keep, codeAny_func ?_⟩
    obtain ⟨t, ht, hq⟩ := hbody
    refine wpAny_mono (ht.run [] s1 (L2.start N vs) H _ (inv_startH S hpin e0 hl r x) hq) (fun fl s' hs => ?_) fun e s' hs => hs
    cases fl with
    | ret u =>
      obtain ⟨v, σ', H', J, rv, z⟩ := hs
      exact ⟨v, H', J.os, J.bare, J.base, J.hok, rv, z⟩
    | next =>
      obtain ⟨σ', H', J, z⟩ := hs
      exact ⟨.non, H', J.os, J.bare, J.base, J.hok, rfl, z⟩
    | brk => obtain ⟨_, _, _, z⟩ := hs; exact z.elim
    | cont => obtain ⟨_, _, _, z⟩ := hs; exact z.elim
/-- the def _law_kin as it lies -/
structure KinD (K : PySem.W.Frag) (mg : Str → Option Value) : Prop where
  ex : ∃ (g : Addr) (oc : Value) (od : Option Addr) (qual : Str) (params : Arguments) (body : List Stmt) (scope : Scope) (dV kV doc pm : Value) (an : Option Addr) (cdv ct : Value) (osl : Array (Option Value)),
    mg ("_law_kin" : Str) = some (.ref g) ∧ PySem.W.keepIn K (.ref g) = true ∧ K.lookup g = some ⟨oc, od, .func (PySem.W.fnOf "_law_kin" qual params body scope dV kV doc pm an cdv ct), osl⟩ ∧ PySem.W.codeIn K cdv qual = true ∧
    FnScope kinN ["_law_e"] scope ∧ L2.Binds K (PySem.W.fnOf "_law_kin" qual params body scope dV kV doc pm an cdv ct) ["_law_e"] [] ∧ isKin scope body = true
section
variable {Y : Cx} {q : Addr × Obj} {D : Addr} {f : Str → Bool} {k j : Nat} {e : Str}
theorem pe_kin (kd : KinD Y.K Y.mg) (kf : KinF Y.K Y.mg D f) (zc : Zc (.ref D) none q.2) (fl : ∃ vs, q.2.data = .fields vs) (mem : q ∈ Y.pn) (hot : Hot1 Y.A q) (hr : RoomH (k + 1) Y.A) (hg : Gl Y ("_law_kin" : Str)) (hN : Y.N[j]? = some e) (hv : Vis Y.env.scope e)
    (hd : (e == ("__debug__" : Str)) = false) (hc : (e == ("__classdict__" : Str)) = false) {p p2 pos : Pos} :
    PE Y (.Call (.Name "_law_kin" p) [.Name e p2] [] pos) (fun σ H Q => σ[j]? = some (some (.ref q.1)) ∧ ∀ H', SameH H H' → Q (.str (kinT f)) H') := by
  obtain ⟨g, oc, od, qual, params, body, scope, dV, kV, doc, pm, an, cdv, ct, osl, mgk, kp, lk, hcd, S, bn, hk⟩ := kd.ex
  refine ⟨fun pins s σ H Q I ⟨w1, w2⟩ => ?_⟩
  refine wpAny_Call_Name_kw (ld_glob I hg mgk ?_ (by decide +kernel))
  have ha : PA Y [.Name e p2] (tCons (tVar j) tNil) := pa_cons (pe_var hN hv hd hc) pa_nil
  refine PySem.W.callWith_K (h₀ := Y.base) I.ok.mod.kin kp (thn (ha.run pos pins s σ H (fun vs H1 => vs = [V.ref q.1] ∧ H1 = H) I ⟨_, w1, rfl, rfl⟩) fun us s1 ⟨vs, H1, I1, r, e1, e2⟩ => ⟨I1.kIn, ?_⟩) rfl rfl
  subst e1
  subst e2
  obtain _ | ⟨rq, _ | _⟩ := r
  cases rq
  have P1 := I1.pin q (List.mem_append_left _ mem)
  have hpin : PinOk Y.stack H1 s1 q := ⟨P1.1, P1.2.1, fun hm => (List.mem_cons.mp (I1.stkSub q.1 hm)).elim P1.2.2.1 P1.2.2.2.1, P1.2.2.2.2⟩
  have b := bn s1 [.ref q.1] I1.kIn rfl
  have l3 : loc3 scope = true := by
    unfold isKin at hk
    split at hk
    · exact (and2 hk).1
    · cases hk
  refine wpAny_call (codeAny_mono (runH (CXg := L2.CX Y.prog Y.w) (N := kinN) (E := fun _ _ _ => False) (Q := Q) (vs := [V.ref q.1]) lk hcd S hr hot hpin I1.env0 b (.cons rfl .nil) rfl ⟨_, kin_body (X := cxH (L2.CX Y.prog Y.w) Y.prog Y.w Y.K Y.mg Y.base kinN qual scope g cdv Y.A Y.stack s1 H1 (fun _ _ _ => False) q) (sc := scope) ⟨rfl, rfl, kf, zc, fl, List.mem_cons_self, hot, l3⟩ hk, ?_⟩) fun r s' hq => ?_)
  · exact ⟨rfl, rfl, w2⟩
  · cases r with
    | error e =>
      obtain ⟨_, _, _, _, _, _, _, _, _, _, _, _, z⟩ := hq
      exact z.elim
    | ok fl =>
      cases fl with
      | ret u => exact I1.after hq
      | next => exact False.elim hq
      | brk => exact False.elim hq
      | cont => exact False.elim hq
end
end RF
end
section
set_option Elab.async false
set_option linter.all false
set_option maxRecDepth 100000
set_option maxHeartbeats 2000000
/-! try with several clauses «except C as e», one of which takes what is raised. -/
namespace RF
open PySem PySem.Spec PyProof.Rows L2 HotX L2H

abbrev SuiteT := Addr → Value → Option Addr → TS
/-- the ends behind a clause: its name is gone -/
def offE (i : Nat) (D : Ends) : Ends := { nx := fun σ H => D.nx (σ.set i none) H, rt := D.rt, bk := fun σ H => D.bk (σ.set i none) H, ct := fun σ H => D.ct (σ.set i none) H }
def wTry (K : PySem.W.Frag) (i : Nat) (D : Ends) : List (Value × SuiteT) → WX
  | [] => fun _ _ _ _ => False
  | (c, ts) :: r => fun cls d σ H => ∃ b, PySem.W.exmOne K cls c = some b ∧ (b = true → ∀ a, H a = none → ts a cls d (offE i D) (σ.set i (some (.ref a))) H) ∧ (b = false → wTry K i D r cls d σ H)
inductive Hds (X : Cx) (n : Str) : List ExceptHandler → List (Value × SuiteT) → Prop
  | nil : Hds X n [] []
  | cons {x : Str} {c : Value} {ts : SuiteT} {b0 : Stmt} {suite : List Stmt} {np hp : Pos} {hds : List ExceptHandler} {l : List (Value × SuiteT)} (hc : Names X x c)
      (hsu : ∀ (a : Addr) (oe : Obj) (cls : Value) (d : Option Addr) (pn : List (Addr × Obj)), L2N.Zn cls d oe → (∃ vs, oe.data = .fields vs) → PSs (X.suite a ((a, oe) :: pn)) (b0 :: suite) (ts a cls d)) (r : Hds X n hds l) :
      Hds X n (.ExceptHandler (some (.Name x np)) (some n) (b0 :: suite) hp :: hds) ((c, ts) :: l)
section
variable {X : Cx} {n : Str} {i : Nat} {body : List Stmt} {h0 : ExceptHandler} {hds : List ExceptHandler} {l : List (Value × SuiteT)} {pos : Pos} {tb : WX → TS}
theorem not_frame {B h : Heap} {l : List PySem.Env} {a : Addr} {o : Obj} {vs : Array Value} (ff : h.FunFrames B l) (e : h.get? a = some o) (d : o.data = .fields vs) : a ∉ frs l := fun hm => by
  obtain ⟨_, o', e', k⟩ := ff.mem hm
  rw [e] at e'
  cases e'
  exact k _ d
theorem ps_tryAs (hs : X.stack = X.env :: X.outer) (hf : X.env.frame = some X.env.locals) (hN : X.N.Nodup) (hi : X.N[i]? = some n) (hln : X.env.kindOf n = some .local)
    (hb : ∀ (W : WX) (pn : List (Addr × Obj)) (xe : Value → Shared → Prop), L2N.Takes (X.tr pn xe) W → PassesOwn (model X.prog X.w) X.A X.env xe → PSs (X.tr pn xe) body (tb W))
    (hh : Hds X n (h0 :: hds) l) : PS X (.Try body (h0 :: hds) [] [] pos) (fun D σ H => tb (wTry X.K i D l) D σ H) := by
  refine ⟨fun pins s σ H D I h => ?_⟩
  have ok := I.ok
  have hfr : X.A.frames = some (X.env :: X.outer) := by rw [ok.frames, hs]
  -- what is raised meets the clauses
  let xe : Value → Shared → Prop := fun e t => wpAny (model X.prog X.w) X.A (noteFrame e X.env) (fun _ t2 => wpAny (model X.prog X.w) X.A (setFlight e none) (fun _ t3 => wpAny (model X.prog X.w) X.A (handleBy e X.env (h0 :: hds)) (SP X pins D) X.xe t3) X.xe t2) X.xe t
  have met : L2N.Takes (X.tr (X.pn ++ pins) xe) (wTry X.K i D l) := fun u s' xx => by
    obtain ⟨a, B, sI, pins', σ1, H1, cls, d, rfl, J', nb, up, sky, na, os, ag, wish⟩ := xx
    have J : Inv X pins σ1 H1 sI := J'.ofTry ok
    have sky : Sky B (X.env :: X.outer) a (L2N.Zn cls d) X.env.locals s'.heap := by rw [← hs]; exact sky
    refine L2N.Sky.land L2N.Zn.steady hfr hf sky fun g3 fl up3 => ?_
    have J3 : Inv X pins σ1 H1 { s' with heap := g3 } := J.landed nb fl.1 (up.trans up3) os ag
    obtain ⟨o3, v3, e3, z3, d3⟩ := fl.there
    have nfr := not_frame fl.2.2.1 e3 d3
    have nL : a ≠ X.env.locals := fun z => nfr (List.mem_filterMap.mpr ⟨X.env, List.mem_cons_self, by rw [hf, z]⟩)
    have nF : a ∉ X.fs := fun hm => by
      obtain ⟨e, he, z⟩ := List.mem_filterMap.mp hm
      exact nfr (List.mem_filterMap.mpr ⟨e, List.mem_cons_of_mem _ he, z⟩)
    have S3 := J3.suite e3 d3 na nL nF
    have LT : PySem.W.Looks (model X.prog X.w) g3 (typeOf (.ref a)) cls := fun A Q E s k z => wpAny_typeOf_ref (k _ _ e3) (by rw [z3.1]; exact z)
    suffices go : ∀ {L : List ExceptHandler} {l' : List (Value × SuiteT)}, Hds X n L l' → wTry X.K i D l' cls d σ1 H1 → wpAny (model X.prog X.w) X.A (handleBy (.ref a) X.env L) (SP X pins D) X.xe { s' with heap := g3 } from go hh wish
    intro L l' hk wish
    induction hk with
    | nil => exact wish.elim
    | @cons x c ts b0 suite np hp hds2 l2 hc hsu _ ih =>
      obtain ⟨b, hb1, hyes, hno⟩ := wish
      refine wpAny_handleBy_cons (codeAny_handlers_test ?_) (by intro z; cases z)
      have LM := PySem.W.exm_one (M := model X.prog X.w) J3.kIn LT hb1
      have test : ∀ {Q : Value → Shared → Prop} {E : Value → Shared → Prop}, Q c { s' with heap := g3 } → wpAny (model X.prog X.w) (X.A.mark (some (.ref a))) (eval (.Name x np) X.env) Q E { s' with heap := g3 } := fun {Q E} z => by
        obtain ⟨hg, hdbg, hm | ⟨hm, hv, hnn⟩⟩ := hc
        · exact ld_glob (X := X.suite a ((a, o3) :: (X.pn ++ pins))) S3 hg hm z hdbg
        · exact ld_blt (X := X.suite a ((a, o3) :: (X.pn ++ pins))) S3 hg hm hv z hnn hdbg
      refine test (LM.here ?_)
      cases b with
      | false => exact ih (hno rfl)
      | true =>
        refine codeAny_handlers_suite_as (HandSPX.lands_againZ fl fun g4 fl4 up4 => ?_)
        have J4 : Inv X pins σ1 H1 { s' with heap := g4 } := J.landed nb fl4.1 ((up.trans up3).trans up4) os ag
        obtain ⟨o4, v4, e4, z4, d4⟩ := fl4.there
        refine store_ok (X := X.suite a ((a, o4) :: (X.pn ++ pins))) (v := .ref a) (J4.suite e4 d4 na nL nF) hN hi (.inl hln) rfl (fun s5 S5 => ?_) (.inr hln)
        refine wpAny_mono ((hsu a o4 cls d (X.pn ++ pins) z4 ⟨_, d4⟩).run [] s5 _ H1 _ S5 (hyes rfl a na)) (fun fl6 s6 hsp => ?_) (fun _ _ z => z.elim)
        have gone : ∀ {σ6 : L2.St} {H6 : Hp} {Q : Shared → Prop}, Inv (X.suite a ((a, o4) :: (X.pn ++ pins))) [] σ6 H6 s6 → (∀ s7, Inv X pins (σ6.set i none) H6 s7 → Q s7) →
            wpAny (model X.prog X.w) X.A (do bindName X.env n .none; unbindBehindTheSuite X.env n hp) (fun _ s7 => Q s7) X.xe s6 := fun {σ6 H6 Q} S6 hq => gone_ok (S6.unsuite ok) hN hi hln hq
        cases fl6 with
        | next => obtain ⟨σ6, H6, S6, q6⟩ := hsp; exact gone S6 fun s7 J7 => ⟨_, _, J7, q6⟩
        | brk => obtain ⟨σ6, H6, S6, q6⟩ := hsp; exact gone S6 fun s7 J7 => ⟨_, _, J7, q6⟩
        | cont => obtain ⟨σ6, H6, S6, q6⟩ := hsp; exact gone S6 fun s7 J7 => ⟨_, _, J7, q6⟩
        | ret u => obtain ⟨v6, σ6, H6, S6, r6, q6⟩ := hsp; exact gone S6 fun s7 J7 => ⟨_, _, _, J7, r6, q6⟩
  refine wpAny_Try_except (wpAny_mono ((hb (wTry X.K i D l) (X.pn ++ pins) xe met PassesOwn.looking).run [] s σ H D (I.toTry _) h) (fun f s1 hsp => ?_) fun e s1 he => he)
  cases f with
  | next => obtain ⟨σ1, H1, J, z⟩ := hsp; exact wpAny_execs_nil ⟨σ1, H1, J.ofTry ok, z⟩
  | brk => obtain ⟨σ1, H1, J, z⟩ := hsp; exact ⟨σ1, H1, J.ofTry ok, z⟩
  | cont => obtain ⟨σ1, H1, J, z⟩ := hsp; exact ⟨σ1, H1, J.ofTry ok, z⟩
  | ret u => obtain ⟨v, σ1, H1, J, rv, z⟩ := hsp; exact ⟨v, σ1, H1, J.ofTry ok, rv, z⟩
end
end RF
end
section
set_option Elab.async false
set_option linter.all false
set_option maxRecDepth 100000
set_option maxHeartbeats 2000000
/-! A lambda without parameters handed to the def that tries it; exceptions whose context is known to be None. -/
namespace RF
open PySem PySem.Spec PyProof.Rows L2 HotX L2H

/-- the lambda's body, its exceptions told with their context -/
abbrev lamN (X : Cx) (A : Around) (outer : List PySem.Env) (s : Shared) (H : Hp) (E : XK) (scope : Scope) (f c' : Addr) : Cx :=
  (LamX.lamCx X A outer s H E scope f c').tr [] fun e s' => wpAny (model X.prog X.w) (A.deeper (LamX.lamEnv X scope s.heap.objs.size f c')) (leaving (LamX.lamEnv X scope s.heap.objs.size f c') e) (fun _ s2 => L2N.CX X.prog X.w outer H s E e s2) (fun e' s2 => L2N.CX X.prog X.w outer H s E e' s2) s'
theorem lamN_takes {X : Cx} {A : Around} {outer : List PySem.Env} {s : Shared} {H : Hp} {E : XK} {scope : Scope} {f c' : Addr} : L2N.Takes (lamN X A outer s H E scope f c') (fun cls d _ H' => E cls d H') :=
  L2N.takes_of (X := lamN X A outer s H E scope f c') (E₁ := fun e' s2 => L2N.CX X.prog X.w outer H s E e' s2) rfl rfl rfl rfl
/-- what the callee's a() does: the lambda's body runs -/
def Acts (X : Cx) (Ng : List Str) (x : Str) (sg : Scope) (g : Addr) (cdg : Value) (a : Str) (f c' : Addr) (s : Shared) (H : Hp) (tl : XK → Hp → VK → Prop) : Prop :=
  ∀ (W : WX) (pn : List (Addr × Obj)) (xe : Value → Shared → Prop) (p1 p2 : Pos), L2N.Takes ((cxOf C8.CX0 X.prog X.w X.K X.mg X.base Ng x sg g cdg X.A X.stack s H C8.E0).tr pn xe) W →
    PE ((cxOf C8.CX0 X.prog X.w X.K X.mg X.base Ng x sg g cdg X.A X.stack s H C8.E0).tr pn xe) (.Call (.Name a p1) [] [] p2) (fun σZ HZ Q => σZ[0]? = some (some (.ref f)) ∧ HZ c' = some (LamX.CodeO c' (X.env.qual ++ "<lambda>")) ∧ ∃ E : XK, (∀ cls d H', E cls d H' → W cls d σZ H') ∧ tl E HZ Q)
def GivesN (X : Cx) (Ng : List Str) (x : Str) (sg : Scope) (g : Addr) (cdg : Value) (bg : List Stmt) (a : Str) (TT : (XK → Hp → VK → Prop) → Hp → VK → Prop) : Prop :=
  ∀ (f c' : Addr) (s : Shared) (H : Hp) (Q : VK) (tl : XK → Hp → VK → Prop), Acts X Ng x sg g cdg a f c' s H tl → H c' = some (LamX.CodeO c' (X.env.qual ++ "<lambda>")) → TT tl H Q →
    ∃ t, PSs (cxOf C8.CX0 X.prog X.w X.K X.mg X.base Ng x sg g cdg X.A X.stack s H C8.E0).nox bg t ∧ t { nx := fun _ H' => Q .non H', rt := Q } (L2.start Ng [.ref f]) H
section
variable {X : Cx} {pins : List (Addr × Obj)} {σ : L2.St} {H : Hp} {s : Shared}
theorem actN {Ng : List Str} {x : Str} {sg : Scope} {g f c' : Addr} {cdg pm ctv : Value} {params : Arguments} {body : Expr} {scope : Scope} {k : Nat} {a : Str} {t : XK → TE}
    (I : Inv X pins σ H s) (L : LamX.LamS X.env.scope scope) (hf : s.heap.get? f = some (PySem.W.kla_obj "<lambda>" (X.env.qual ++ "<lambda>") params body scope (cloFrom X.env.cells scope.names []) pm c' ctv)) (hfn : H f = none) (hfr : f ∉ frs X.stack)
    (hbind : bindArgs (PySem.W.kla_fn "<lambda>" (X.env.qual ++ "<lambda>") params body scope (cloFrom X.env.cells scope.names []) pm (.ref c') ctv) ⟨[], []⟩ = pure []) (hr : Room (k + 1) (X.A.deeper (envOfC x sg s.heap.objs.size g cdg)))
    (hbody : ∀ (A : Around) (outer : List PySem.Env) (s : Shared) (H : Hp) (E : XK), Room k (A.deeper (LamX.lamEnv X scope s.heap.objs.size f c')) → PE (lamN X A outer s H E scope f c') body (t E))
    (hN : Ng[0]? = some a) (hv : Vis sg a) (hd : (a == ("__debug__" : Str)) = false) (hcd : (a == ("__classdict__" : Str)) = false) : Acts X Ng x sg g cdg a f c' s H (fun E H' Q' => t E σ H' Q') := by
  intro W pn xe p1 p2 tk
  refine ⟨fun pinsZ sZ σZ HZ Q IZ h => ?_⟩
  obtain ⟨h1, h2, E, hW, h3⟩ := h
  refine wpAny_Call_Name_kw (thn ((pe_var (pos := p1) (i := 0) hN hv hd hcd).run pinsZ sZ σZ HZ (fun v H1 => v = .ref f ∧ H1 = HZ) IZ ⟨_, h1, rfl, rfl⟩) fun u s1 ⟨v, H1, I1, r1, e1, e2⟩ => ?_)
  subst e1
  subst e2
  obtain rfl : u = Value.ref f := r1
  have of1 := I1.base.keep f _ hf hfn hfr (fun z => nomatch (show f ∈ ([] : List Addr) from z))
  refine PySem.W.callWith_F0 ⟨_, _, _, _, of1⟩ ?_
  have un : Un (frs X.stack) [] H H1 s.heap s1.heap := I1.base
  obtain ⟨⟨oc, vs, tok, k1, k2, k3⟩, _, _⟩ := I1.hok c' _ h2
  have run : codeAny (model X.prog X.w) (X.A.deeper (envOfC x sg s.heap.objs.size g cdg)) (.call (.ref f) ⟨[], []⟩) (CR (L2N.CX X.prog X.w) (envOfC x sg s.heap.objs.size g cdg :: X.stack) X.prog X.w H1 s1 Q E) s1 := by
    refine PySem.W.kla_callFunE hr.depth of1 rfl L.co L.gen rfl ⟨c', oc, vs, tok, rfl, k1, k2, k3⟩ ?_
    rw [hbind]
    refine wpAny_pure (wpAny_newFunctionEnv (fun y hy => (L.own y hy).2) (fun y hy => absurd hy (by simp)) (fun h1 hns hsb => ⟨I1.nolimit.fresh _ hsb, ?_⟩) L.kind)
    have kp : ∀ b o, s1.heap.get? b = some o → h1.get? b = some o := fun b o e => hsb.extBut b o (Nat.ne_of_lt (Heap.lt_size e)) (Heap.get?_push_of_some _ e)
    have J := LamX.lam_start2 (E := E) (c' := c') (f := f) (tk := s1.toks + ([] : List (Str × Value)).length) I L I1.env0 hr.hd un hns kp
    refine PySem.W.kla_codeExpr (wpAny_mono ((hbody (X.A.deeper (envOfC x sg s.heap.objs.size g cdg)) (envOfC x sg s.heap.objs.size g cdg :: X.stack) s1 H1 E (hr.deeper _)).run [] _ _ H1 Q (J.toTry _) h3) (fun v s2 hq => ?_) fun e s2 hq => hq)
    obtain ⟨w', H', J', rv, q⟩ := hq
    exact ⟨w', H', J'.os, J'.bare, J'.base, J'.hok, rv, q⟩
  refine wpAny_call (codeAny_mono run fun r s2 hq => ?_)
  cases r with
  | error e => exact tk e s2 (L2N.XE.of_call I1 hW hq)
  | ok fl =>
    cases fl with
    | ret u => exact I1.after hq
    | next => exact False.elim hq
    | brk => exact False.elim hq
    | cont => exact False.elim hq
def tLamN (T : List (Addr × Str)) (TT : (XK → Hp → VK → Prop) → Hp → VK → Prop) (t : XK → TE) : TE := fun σ H Q => LamX.Tabs T H ∧ ∀ H1, LamX.ExtN H H1 → LamX.Tabs T H1 → TT (fun E H' Q' => t E σ H' Q') H1 Q
/-- x(lambda: body) -/
theorem pe_lamN {T : List (Addr × Str)} {TT : (XK → Hp → VK → Prop) → Hp → VK → Prop} {x a : Str} {g c P : Addr} {k : Nat} {pg : Arguments} {bg : List Stmt} {sg : Scope} {dV kV doc pm cdv ct oc : Value} {an od : Option Addr} {osl : Array (Option Value)} {Ng : List Str}
    {params : Arguments} {body : Expr} {scope : Scope} {t : XK → TE} {p lpos pos : Pos} (hg : Gl X x) (hm : X.mg x = some (.ref g)) (hk : PySem.W.keepIn X.K (.ref g) = true)
    (lk : X.K.lookup g = some ⟨oc, od, .func (PySem.W.fnOf x x pg bg sg dV kV doc pm an cdv ct), osl⟩) (hcg : PySem.W.codeIn X.K cdv x = true) (hb : L2.Binds X.K (PySem.W.fnOf x x pg bg sg dV kV doc pm an cdv ct) [a] []) (Sg : FnScope Ng [a] sg) (hNg : Ng[0]? = some a) (hva : Vis sg a)
    (hG : GivesN X Ng x sg g cdv bg a TT) (TB : LamX.TabB X.base X.mg c P) (hcode : X.env.code = .ref c) (hmT : (P, X.env.qual ++ "<lambda>") ∈ T) (hu : ∀ p ∈ T, p.1 = P → p.2 = X.env.qual ++ "<lambda>") (hr : Room (k + 2) X.A) (L : LamX.LamS X.env.scope scope)
    (hdef : defaultsOf params X.env = ([], [])) (hbind : ∀ (q : Str) (cl : List (Str × Addr)) (pm cv ctv : Value), bindArgs (PySem.W.kla_fn "<lambda>" q params body scope cl pm cv ctv) ⟨[], []⟩ = pure [])
    (hbody : ∀ (A : Around) (outer : List PySem.Env) (s : Shared) (H : Hp) (E : XK) (f c' : Addr), Room k (A.deeper (LamX.lamEnv X scope s.heap.objs.size f c')) → PE (lamN X A outer s H E scope f c') body (t E))
    (hdb : (x == ("__debug__" : Str)) = false) (hd : (a == ("__debug__" : Str)) = false) (hcd : (a == ("__classdict__" : Str)) = false) : PE X (.Call (.Name x p) [.Lambda params body scope lpos] [] pos) (tLamN T TT t) := by
  refine ⟨fun pins s σ H Q I ⟨hT, h⟩ => ?_⟩
  refine wpAny_Call_Name_kw (ld_glob I hg hm ?_ hdb)
  refine PySem.W.callWith_K (h₀ := X.base) I.ok.mod.kin hk ?_ (by rfl) (by rfl)
  show wpAny _ _ (spliced ((false, eval (.Lambda params body scope lpos) X.env) :: backTo pos (starEach [] X.env))) _ _ s
  refine Calls.spliced_cons (LamX.lam_make2 I TB hcode hmT hu hT hdef (L.has I.ok) fun f c' pm2 ctv H1 s1 I1 eN T1 hf hfn hfr hco => Calls.spliced_nil ⟨I1.kIn, ?_⟩)
  have run : codeAny (model X.prog X.w) X.A (.call (.ref g) ⟨[.ref f], []⟩) (CR C8.CX0 X.stack X.prog X.w H1 s1 Q C8.E0) s1 := by
    refine LamX.run_ofS (N := Ng) (ps := [a]) (us := [.ref f]) (vs := [.ref f]) lk hcg Sg hr I1.env0 (hb s1 [.ref f] I1.kIn rfl) (.cons rfl .nil) rfl fun hr2 => ?_
    obtain ⟨t2, ht, hq⟩ := hG f c' s1 H1 Q (fun E H' Q' => t E σ H' Q') (actN I1 L hf hfn hfr (hbind _ _ _ _ _) hr2 (fun A outer s H E hr3 => hbody A outer s H E f c' hr3) hNg hva hd hcd) hco (h H1 eN T1)
    exact ⟨t2, ht.nox, hq⟩
  refine wpAny_call (codeAny_mono run fun r s2 hq => ?_)
  cases r with
  | error e => exact (show False from hq).elim
  | ok fl =>
    cases fl with
    | ret u => exact I1.after hq
    | next => exact False.elim hq
    | brk => exact False.elim hq
    | cont => exact False.elim hq
end
end RF
end
section
set_option Elab.async false
set_option linter.all false
set_option maxRecDepth 100000
set_option maxHeartbeats 2000000
/-! The def that tries a call and tells its error by words. -/
namespace RF
open PySem PySem.Spec PyProof.Rows L2 HotX L2H

def tryN : List Str := ["_law_call_so", "_law_found", "_law_e"]
def tryL (sg : Scope) : Bool := decide (sg.names.lookup ("_law_call_so" : Str) = some .local) && (decide (sg.names.lookup ("_law_found" : Str) = some .local) && (decide (sg.names.lookup ("_law_e" : Str) = some .local) && (decide (sg.names.lookup ("TooMany" : Str) = some .globalImplicit) &&
  (decide (sg.names.lookup ("InvalidText" : Str) = some .globalImplicit) && (decide (sg.names.lookup ("FeudError" : Str) = some .globalImplicit) && decide (sg.names.lookup ("_law_kin" : Str) = some .globalImplicit))))))
def isTry (sg : Scope) (bg : List Stmt) : Bool := match bg with
  | [.Assign [.Name f0 _] (.Constant .none _ _) _, .Try [.Assign [.Name f1 _] (.Tuple [.Constant (.str t) _ _, .Call (.Name a _) [] [] _] _ _) _]
      [.ExceptHandler (some (.Name c1 _)) (some e1) (_ :: _) _, .ExceptHandler (some (.Name c2 _)) (some e2) (_ :: _) _, .ExceptHandler (some (.Name c3 _)) (some e3) [.Assign [.Name f2 _] (.Call (.Name kn _) [.Name e4 _] [] _) _] _] [] [] _, .Return (some (.Name f3 _)) _] =>
    tryL sg && (decide (f0 = ("_law_found" : Str)) && (decide (f1 = ("_law_found" : Str)) && (decide (t = ("told" : Str)) && (decide (a = ("_law_call_so" : Str)) && (decide (c1 = ("TooMany" : Str)) && (decide (e1 = ("_law_e" : Str)) && (decide (c2 = ("InvalidText" : Str)) &&
    (decide (e2 = ("_law_e" : Str)) && (decide (c3 = ("FeudError" : Str)) && (decide (e3 = ("_law_e" : Str)) && (decide (f2 = ("_law_found" : Str)) && (decide (kn = ("_law_kin" : Str)) && (decide (e4 = ("_law_e" : Str)) && decide (f3 = ("_law_found" : Str)))))))))))))))
  | _ => false
/-- an exception of a class that is told by its words alone -/
def wKin (K : PySem.W.Frag) (mg : Str → Option Value) (C1 C2 C3 : Addr) (Q : VK) : XK := fun cls d H' => ∃ (D : Addr) (f : Str → Bool), cls = .ref D ∧ d = none ∧ KinF K mg D f ∧ PySem.W.exmOne K (.ref D) (.ref C1) = some false ∧
  PySem.W.exmOne K (.ref D) (.ref C2) = some false ∧ PySem.W.exmOne K (.ref D) (.ref C3) = some true ∧ ∀ H2, SameH H' H2 → Q (.str (kinT f)) H2
def tTry (K : PySem.W.Frag) (mg : Str → Option Value) (C1 C2 C3 : Addr) : (XK → Hp → VK → Prop) → Hp → VK → Prop := fun tl H Q =>
  tl (wKin K mg C1 C2 C3 Q) H (fun v H' => [V.str "told", v].length ≤ sizeLine ∧ ∀ p, H' p = none → ∃ w, some (some (V.ref p)) = some (some w) ∧ Q w (upd H' p (.tup [.str "told", v])))
theorem never {X : Cx} {ps : List Stmt} : PSs X ps (fun _ _ _ => False) := ⟨fun _ _ _ _ _ _ h => h.elim⟩
section
variable {X : Cx} {C1 C2 C3 : Addr}
theorem try_gives {k : Nat} {sg : Scope} {g : Addr} {cdg : Value} {bg : List Stmt} (kd : KinD X.K X.mg) (m1 : X.mg ("TooMany" : Str) = some (.ref C1)) (m2 : X.mg ("InvalidText" : Str) = some (.ref C2)) (m3 : X.mg ("FeudError" : Str) = some (.ref C3)) (hr : Room (k + 2) X.A)
    (h : isTry sg bg = true) : GivesN X tryN "_law_try" sg g cdg bg "_law_call_so" (tTry X.K X.mg C1 C2 C3) := by
  intro f c' s H Q tl act hc ht
  unfold isTry at h
  split at h
  · simp only [Bool.and_eq_true] at h
    obtain ⟨h0, h1, h2, h3, h4, h5, h6, h7, h8, h9, h10, h11, h12, h13, h14⟩ := h
    cases decT' h1
    cases decT' h2
    cases decT' h3
    cases decT' h4
    cases decT' h5
    cases decT' h6
    cases decT' h7
    cases decT' h8
    cases decT' h9
    cases decT' h10
    cases decT' h11
    cases decT' h12
    cases decT' h13
    cases decT' h14
    simp only [tryL, Bool.and_eq_true] at h0
    obtain ⟨l0, l1, l2, g1, g2, g3, g4⟩ := h0
    let Z : Cx := (cxOf C8.CX0 X.prog X.w X.K X.mg X.base tryN "_law_try" sg g cdg X.A X.stack s H C8.E0).nox
    have nd : Z.N.Nodup := by show tryN.Nodup; decide +kernel
    have lz : ∀ {x : Str}, sg.names.lookup x = some .local → Z.env.scope.names.lookup x = some .local := fun e => e
    have nm : ∀ {x : Str} {C : Addr}, sg.names.lookup x = some .globalImplicit → (x == ("__debug__" : Str)) = false → X.mg x = some (.ref C) → Names Z x (.ref C) := fun e hd m => ⟨e, hd, .inl m⟩
    refine ⟨_, pss_cons (ps_set (X := Z) (i := 1) nd rfl (.inl (lz (decT' l1))) pe_non rfl (.inr (lz (decT' l1)))) (pss_cons (ps_tryAs (X := Z) (i := 2) (n := "_law_e")
        (l := [(.ref C1, fun _ _ _ _ _ _ => False), (.ref C2, fun _ _ _ _ _ _ => False), (.ref C3, fun a cls d E σ H => ∃ (D : Addr) (f : Str → Bool), cls = .ref D ∧ d = none ∧ KinF X.K X.mg D f ∧ σ[2]? = some (some (.ref a)) ∧ ∀ H2, SameH H H2 → E.nx (σ.set 1 (some (.str (kinT f)))) H2)])
        (tb := fun W E σ H => σ[0]? = some (some (.ref f)) ∧ H c' = some (LamX.CodeO c' (X.env.qual ++ "<lambda>")) ∧ ∃ Ech : XK, (∀ cls d H', Ech cls d H' → W cls d σ H') ∧ tl Ech H fun v H' => [V.str "told", v].length ≤ sizeLine ∧ ∀ p, H' p = none → E.nx (σ.set 1 (some (.ref p))) (upd H' p (.tup [.str "told", v])))
        rfl rfl nd rfl (lz (decT' l2)) (fun W pn xe tk po => ?_) (.cons (nm (decT' g1) (by decide +kernel) m1) (fun _ _ _ _ _ _ _ => never) (.cons (nm (decT' g2) (by decide +kernel) m2) (fun _ _ _ _ _ _ _ => never) (.cons (nm (decT' g3) (by decide +kernel) m3) (fun a oe cls d pn hz hf => ?_) .nil)))) (pss_one (ps_ret (pe_var (X := Z) (i := 1) rfl (.inl (lz (decT' l1))) (by decide +kernel) (by decide +kernel))))), ?_⟩
    · -- the body of the try
      have hp := act W pn xe
      refine (pss_one (ps_set (X := Z.tr pn xe) (i := 1) nd rfl (.inl (lz (decT' l1))) (pe_tup (pa_cons pe_str (pa_cons (hp _ _ tk) pa_nil))) rfl (.inr (lz (decT' l1))))).imp fun E σ H ⟨w1, w2, Ech, w3, w4⟩ => ?_
      exact ⟨w1, w2, Ech, w3, w4⟩
    · -- the last clause
      refine ⟨fun pins s2 σ2 H2 E2 I2 hw => ?_⟩
      obtain ⟨D, f2, rfl, rfl, kf, w1, w2⟩ := hw
      have hot : Hot1 (Z.suite a ((a, oe) :: pn)).A (a, oe) := by
        obtain ⟨vs, hv⟩ := hf
        exact ⟨rfl, vs, hv, hz.2.2 vs hv⟩
      have gk := decT' g4
      refine (pss_one (ps_set (X := Z.suite a ((a, oe) :: pn)) (i := 1) nd rfl (.inl (lz (decT' l1))) (pe_kin (k := k) (Y := Z.suite a ((a, oe) :: pn)) (q := (a, oe)) (j := 2) kd kf hz.zc hf List.mem_cons_self hot ?_ gk rfl (.inl (lz (decT' l2))) (by decide +kernel) (by decide +kernel)) rfl
        (.inr (lz (decT' l1))))).run pins s2 σ2 H2 E2 I2 ⟨w1, fun H3 sm => w2 H3 sm⟩
      exact ⟨(Room.deeper hr (envOfC "_law_try" sg s.heap.objs.size g cdg)).dp, (Room.deeper hr (envOfC "_law_try" sg s.heap.objs.size g cdg)).un⟩
    · -- the answers
      refine ⟨rfl, hc, wKin X.K X.mg C1 C2 C3 Q, fun cls d H' w => ?_, ?_⟩
      · obtain ⟨D, f2, rfl, rfl, kf, x1, x2, x3, w⟩ := w
        exact ⟨false, x1, (fun z => nomatch z), fun _ => ⟨false, x2, (fun z => nomatch z), fun _ => ⟨true, x3, fun _ b nb => ⟨D, f2, rfl, rfl, kf, rfl, fun H2 sm => ⟨_, rfl, w H2 sm⟩⟩, (fun z => nomatch z)⟩⟩⟩
      · exact ht
  · cases h
end
end RF
end
section
set_option Elab.async false
set_option linter.all false
set_option maxRecDepth 100000
/-! Readings: calls, built-ins, what is walked, comprehensions. -/
namespace RF
open PySem PySem.Spec PyProof.Rows L2

structure Fd where
  name : Str
  ps : List Str
structure Tab where
  fns : List Fn
  fds : List Fd
  consts : List (Str × D)
  free : List Str
  excs : List Str
  /-- the defs that hold lambdas; the one that is looked at -/
  lams : List Str
  cur : Str
/-- the same, another def looked at -/
def Tab.to (T : Tab) (c : Str) : Tab := { T with cur := c }
/-- what a try asks of the top -/
structure TryG (K : PySem.W.Frag) (mg : Str → Option Value) : Prop where
  kd : KinD K mg
  fn : ∃ (g : Addr) (oc : Value) (od : Option Addr) (pg : Arguments) (bg : List Stmt) (sg : Scope) (dV kV doc pm : Value) (an : Option Addr) (cdv ct : Value) (osl : Array (Option Value)),
    mg ("_law_try" : Str) = some (.ref g) ∧ PySem.W.keepIn K (.ref g) = true ∧ K.lookup g = some ⟨oc, od, .func (PySem.W.fnOf "_law_try" "_law_try" pg bg sg dV kV doc pm an cdv ct), osl⟩ ∧ PySem.W.codeIn K cdv "_law_try" = true ∧
    L2.Binds K (PySem.W.fnOf "_law_try" "_law_try" pg bg sg dV kV doc pm an cdv ct) ["_law_call_so"] [] ∧ FnScope tryN ["_law_call_so"] sg ∧ isTry sg bg = true
  ex : ∃ C1 C2 C3 : Addr, mg ("TooMany" : Str) = some (.ref C1) ∧ mg ("InvalidText" : Str) = some (.ref C2) ∧ mg ("FeudError" : Str) = some (.ref C3) ∧ ∀ x ∈ excN, KinF K mg (He.ga K x) (kf x) ∧ PySem.W.exmOne K (.ref (He.ga K x)) (.ref C1) = some false ∧
    PySem.W.exmOne K (.ref (He.ga K x)) (.ref C2) = some false ∧ PySem.W.exmOne K (.ref (He.ga K x)) (.ref C3) = some true
  one : ∀ p ∈ tabK K, ∀ q ∈ tabK K, p.1 = q.1 → p.2 = q.2
/-- what a def promises: the evaluator's answer, at most k calls deep -/
def spF (K : PySem.W.Frag) (T : Tab) (k i : Nat) : Sp := fun vs H Q E => ∃ ws g μ P, Rel K H μ P g ∧ WRs K H μ P vs ws ∧
  Gd (run T.fns k i ws g) (Post K H μ P Q) (fun e g' => ∀ cls dd H' μ', Rel K H' μ' P g' → Ext H μ H' μ' → ExR K H' e cls dd → E cls dd H')
structure Gok (T : Tab) (P : Program) (w : World) (K : PySem.W.Frag) (mg : Str → Option Value) (base : Heap) (k : Nat) : Prop where
  al : ∀ (i : Nat) (d : Fd), T.fds[i]? = some d → ∃ f : Fn, T.fns[i]? = some f ∧ f.pars = d.ps.length
  free : ∀ x ∈ T.free, mg x = none
  cons : ∀ x d, (x, d) ∈ T.consts → ∃ v u, mg x = some u ∧ RelV v u ∧ ∀ H M, Fz K H M v d
  few : T.fns.length ≤ 1000
  fn : ∀ j : Nat, j ≤ k → ∀ (i : Nat) (d : Fd), T.fds[i]? = some d → ∃ f fd, mg d.name = some (.ref f) ∧ PySem.W.keepIn K (.ref f) = true ∧ Binds K fd d.ps [] ∧ FnOk P w K mg base (L2N.CX P w) j f fd d.ps (spF K T j i)
  tr : T.lams ≠ [] → TryG K mg
  exc : ∀ x ∈ T.excs, mg x = some (.ref (He.ga K x)) ∧ PySem.W.excIn K (He.ga K x) He.veBase "ValueError.__new__" = true ∧ PySem.W.keepIn K (.ref (He.ga K x)) = true ∧
    PySem.W.subIn K (.ref (He.ga K x)) (.type "BaseException") = some true ∧ PySem.W.typeIn K (.ref (He.ga K x)) = some (.type "type")
structure Cok (T : Tab) (X : Cx) (k : Nat) (sc : Scope) (N : List Str) (Wx : WX) : Prop where
  g : Gok T X.prog X.w X.K X.mg X.base k
  scp : X.env.scope = sc
  nm : X.N = N
  nd : N.Nodup
  calm : X.calm = true
  room : Room k X.A
  tk : L2N.Takes X Wx
  kind : sc.kind = .function
  lam : T.cur ∈ T.lams → T.cur ≠ Str.empty → ∃ c A, X.env.code = .ref c ∧ LamX.TabB X.base X.mg c A ∧ (A, X.env.qual ++ "<lambda>") ∈ tabK X.K

section
variable {X : Cx} {Wx : WX} {T : Tab} {k : Nat} {sc : Scope} {N : List Str}
theorem Cok.hu (c : Cok T X k sc N Wx) : X.A.units + 66 < cLine := by have := c.room.un; omega
theorem Cok.gl (c : Cok T X k sc N Wx) {x : Str} (h : sc.names.lookup x = some .globalImplicit) : Gl X x := by
  show X.env.scope.names.lookup x = _
  rw [c.scp]; exact h
theorem Cok.vis (c : Cok T X k sc N Wx) {x : Str} (h : Vis sc x) : Vis X.env.scope x := by rw [c.scp]; exact h

/-! ### a call of a def -/
theorem spF_len {K : PySem.W.Frag} {i : Nat} {d : Fd} (al : ∀ (i : Nat) (d : Fd), T.fds[i]? = some d → ∃ f : Fn, T.fns[i]? = some f ∧ f.pars = d.ps.length) (hd : T.fds[i]? = some d) : ∀ vs H Q E, spF K T k i vs H Q E → vs.length = d.ps.length := by
  intro vs H Q E ⟨ws, g, μ, P, r, h, q⟩
  obtain ⟨f, hf, hp⟩ := al i d hd
  have hl : vs.length = ws.length := Paired.length h
  cases k with
  | zero => exact q.elim
  | succ k =>
    unfold run at q
    rw [hf] at q
    simp only at q
    split at q
    · omega
    · exact q.elim
theorem plain_args {pos : Pos} {env : PySem.Env} : ∀ {es : List Expr}, es.all notStar = true → (backTo pos (starEach es env)).any (·.1) = false
  | [], _ => rfl
  | e :: es, h => by
    have hs : notStar e = true ∧ es.all notStar = true := by simpa using h
    rw [star_cons hs.1]
    have ih := plain_args (pos := pos) (env := env) hs.2
    unfold backTo at ih ⊢
    simpa using ih
theorem se_call (c : Cok T X k sc N Wx) {i : Nat} {d : Fd} {p pos : Pos} {e : Expr} {es : List Expr} {fs : Env → Gs → Out (List W)} {F : Env → Gs → Out W} (hd : T.fds[i]? = some d) (hg : sc.names.lookup d.name = some .globalImplicit)
    (hdb : (d.name == ("__debug__" : Str)) = false) (hst : (e :: es).all notStar = true) (ha : PA X (e :: es) (tA X.K Wx fs))
    (hF : F = fun env g => (fs env g).bind fun ws g1 => run T.fns k i ws g1) : PE X (.Call (.Name d.name p) (e :: es) [] pos) (tE X.K Wx F) := by
  subst hF
  obtain ⟨f, fd, mgf, kp, bn, ok⟩ := c.g.fn k (Nat.le_refl k) i d hd
  have hs : notStar e = true ∧ es.all notStar = true := by simpa using hst
  refine (pe_callS ok c.room (c.gl hg) mgf kp bn (fun σ => L2N.passAt c.tk σ) ha hdb (star_cons hs.1) (plain_args hs.2)).imp fun σ H Q ⟨env, g, μ, P, r, er, q⟩ => ?_
  refine stepA (p := fun H μ => Post X.K H μ P Q) r er (fun e h => Post.up e h) q fun ws g1 vs H1 μ1 r1 e1 er1 h1 q => ?_
  exact ⟨ws, g1, μ1, P, r1, h1, q.mono (fun _ _ z => z) fun _ _ z => z⟩
theorem se_call0 (c : Cok T X k sc N Wx) {i : Nat} {d : Fd} {p pos : Pos} {F : Env → Gs → Out W} (hd : T.fds[i]? = some d) (hg : sc.names.lookup d.name = some .globalImplicit)
    (hdb : (d.name == ("__debug__" : Str)) = false) (hF : F = fun env g => run T.fns k i [] g) : PE X (.Call (.Name d.name p) [] [] pos) (tE X.K Wx F) := by
  subst hF
  obtain ⟨f, fd, mgf, kp, bn, ok⟩ := c.g.fn k (Nat.le_refl k) i d hd
  refine ⟨fun pins s σ H Q I ⟨env, g, μ, P, r, er, q⟩ => ?_⟩
  refine wpAny_Call_Name_kw (ld_glob I (c.gl hg) mgf ?_ hdb)
  exact PySem.W.callWith_K0 I.kIn kp (run_fnS (us := []) ok c.room bn (L2N.passAt c.tk σ) I .nil ⟨[], g, μ, P, r, .nil, q⟩)

/-! ### built-in functions -/
def biName : Bi → Str
  | .str => "str"
  | .len => "len"
  | .int => "int"
  | .all => "all"
  | .any => "any"
  | .tuple => "tuple"
  | .list => "list"
  | .sorted => "sorted"
  | .sortedSet => "sorted"
  | .min2 => "min"
  | .max2 => "max"
  | .listZip => "list"
/-- what a built-in is asked, by the values that are read -/
def rBi (K : PySem.W.Frag) (b : Bi) : List V → Hp → VK → Prop := fun vs H Q => ∃ g μ P xs w g', Rel K H μ P g ∧ Paired (Pk K H (Ms μ P)) vs xs ∧ biW b g xs = .ok w g' ∧ Post K H μ P Q w g'
theorem peeks_of {K : PySem.W.Frag} {H : Hp} {μ : List (Option Addr)} {P : Pv} {g : Gs} (r : Rel K H μ P g) : ∀ {ws : List W} {vs : List V} {xs : List D}, WRs K H μ P vs ws → peeks g ws = some xs → Paired (Pk K H (Ms μ P)) vs xs
  | [], _, xs, h, e => by
    cases h
    cases e
    exact .nil
  | w :: ws, _, xs, h, e => by
    cases h with
    | cons h t =>
      unfold peeks at e
      obtain ⟨x, h1, e⟩ := Option.bind_eq_some_iff.mp e
      obtain ⟨ys, h2, rfl⟩ := Option.map_eq_some_iff.mp e
      exact .cons (r.peek h h1) (peeks_of r t h2)
theorem bi_core {b : Bi} {σ : L2.St} {H : Hp} {Q : VK} {fs : Env → Gs → Out (List W)} (q : tE X.K Wx (fun env g => (fs env g).bind fun ws g1 => (Out.ofO g1 (peeks g1 ws)).bind fun xs _ => biW b g1 xs) σ H Q) : tCB (rBi X.K b) (tA X.K Wx fs) σ H Q := by
  obtain ⟨env, g, μ, P, r, er, q⟩ := q
  refine stepA (p := fun H μ => Post X.K H μ P Q) r er (fun e h => Post.up e h) q fun ws g1 vs H1 μ1 r1 e1 er1 h1 q => ?_
  obtain ⟨xs, ex, q⟩ := q.ofO
  cases e : biW b g1 xs with
  | ok w g' => rw [e] at q; exact ⟨g1, μ1, P, xs, w, g', r1, peeks_of r1 h1 ex, e, q⟩
  | exc x g' =>
    exfalso
    unfold biW at e
    split at e <;> (try split at e) <;> cases e
  | no => rw [e] at q; exact q.elim
theorem biW_of {b : Bi} {g g' : Gs} {xs : List D} {w : W} (h : biW b g xs = .ok w g') : ∃ z, biD b xs = some z ∧ ((∃ zs, z = .list zs ∧ newL g zs = .ok w g') ∨ ((∀ zs, z ≠ .list zs) ∧ w = .d z ∧ g' = g)) := by
  unfold biW at h
  split at h
  · split at h
    · exact ⟨_, by assumption, .inl ⟨_, rfl, h⟩⟩
    · cases h
  · rename_i z hz e
    cases h
    exact ⟨z, e, .inr ⟨hz, rfl, rfl⟩⟩
  · cases h
section
variable {pins : List (Addr × Obj)} {σ : L2.St} {H : Hp} {s : Shared}
theorem pk1 {K : PySem.W.Frag} {M : Addr → Prop} {vs : List V} {x : D} (h : Paired (Pk K H M) vs [x]) : ∃ v, vs = [v] ∧ Pk K H M v x := by
  cases h with
  | cons h t => cases t; exact ⟨_, rfl, h⟩
theorem pk2 {K : PySem.W.Frag} {M : Addr → Prop} {vs : List V} {x y : D} (h : Paired (Pk K H M) vs [x, y]) : ∃ v u, vs = [v, u] ∧ Pk K H M v x ∧ Pk K H M u y := by
  cases h with
  | cons h t =>
    obtain ⟨u, rfl, h2⟩ := pk1 t
    exact ⟨_, u, rfl, h, h2⟩
theorem bools_fz {K : PySem.W.Frag} {M : Addr → Prop} : ∀ {ds : List D} {vs : List V} {bs : List Bool}, FzAll K H M vs ds → boolsD ds = some bs → vs = bs.map V.bl
  | [], _, _, f, e => by cases f; cases e; rfl
  | .bool b :: ds, _, _, f, e => by
    cases f with
    | cons h t =>
      cases h
      obtain ⟨bs, h2, rfl⟩ := Option.map_eq_some_iff.mp (show (boolsD ds).map (b :: ·) = some _ from e)
      rw [bools_fz t h2]; rfl
theorem ints_fz {K : PySem.W.Frag} {M : Addr → Prop} : ∀ {ds : List D} {vs : List V} {bs : List Int}, FzAll K H M vs ds → intsD ds = some bs → vs = bs.map V.int
  | [], _, _, f, e => by cases f; cases e; rfl
  | .int b :: ds, _, _, f, e => by
    cases f with
    | cons h t =>
      cases h
      obtain ⟨bs, h2, rfl⟩ := Option.map_eq_some_iff.mp (show (intsD ds).map (b :: ·) = some _ from e)
      rw [ints_fz t h2]; rfl
theorem ints_back {K : PySem.W.Frag} {M : Addr → Prop} : ∀ ns : List Int, FzAll K H M (ns.map V.int) (ns.map PyData.int)
  | [] => .nil
  | n :: ns => .cons (.int n) (ints_back ns)
end
theorem insI_perm (x : Int) : ∀ l : List Int, (insI x l).Perm (x :: l)
  | [] => .refl _
  | y :: r => by
    unfold insI
    split
    · exact .refl _
    · exact ((insI_perm x r).cons y).trans (.swap x y r)
theorem sortI_perm : ∀ l : List Int, (sortI l).Perm l
  | [] => .refl _
  | x :: r => (insI_perm x _).trans ((sortI_perm r).cons x)
theorem insI_sorted (x : Int) : ∀ l : List Int, l.Pairwise (· ≤ ·) → (insI x l).Pairwise (· ≤ ·)
  | [], _ => by unfold insI; simp
  | y :: r, h => by
    unfold insI
    have h' := List.pairwise_cons.mp h
    split
    · rename_i hx
      refine List.pairwise_cons.mpr ⟨fun z hz => ?_, h⟩
      rcases List.mem_cons.mp hz with rfl | hz
      · exact hx
      · exact Int.le_trans hx (h'.1 z hz)
    · rename_i hx
      refine List.pairwise_cons.mpr ⟨fun z hz => ?_, insI_sorted x r h'.2⟩
      rcases List.mem_cons.mp ((insI_perm x r).mem_iff.mp hz) with rfl | hz
      · omega
      · exact h'.1 z hz
theorem sortI_sorted : ∀ l : List Int, (sortI l).Pairwise (· ≤ ·)
  | [] => .nil
  | x :: r => insI_sorted x _ (sortI_sorted r)
theorem sorted_one {l : List Int} : ∀ {ms : List Int}, ms.Perm l → ms.Pairwise (· ≤ ·) → ms = sortI l := fun {ms} hp hs =>
  (hp.trans (sortI_perm l).symm).eq_of_pairwise (le := (· ≤ ·)) (fun a b _ _ h1 h2 => Int.le_antisymm h1 h2) hs (sortI_sorted l)
end
end RF
end
section
set_option Elab.async false
set_option linter.all false
set_option maxRecDepth 100000
/-! A set of texts made of a tuple, and sorted. -/
namespace RF
open PySem PySem.Spec PyProof.Rows L2

/-- a set object at a: what it holds, in some order; its table rises and can be walked -/
structure Box (w : World) (h : Heap) (a : Addr) (o : Obj) (arr : Array (Int × Value)) (ep : Nat) (t : SetTable) (l : List (Int × Value)) : Prop where
  at_ : h.get? a = some o
  ex : o.ExactSet
  dat : o.data = .set arr ep t
  perm : arr.toList.Perm l
  few : arr.size < scanBound
  fit : t.fits arr.size = true
  ris : Ris t.place.toList
  led : w.params.followText "set-order" = true ∨ t.led = true
def SetP (w : World) (h : Heap) (a : Addr) (l : List (Int × Value)) : Prop := ∃ o arr ep t, Box w h a o arr ep t l
theorem SetP.mv {w : World} {h h' : Heap} {a : Addr} {l : List (Int × Value)} (x : SetP w h a l) (k : ∀ o, h.get? a = some o → h'.get? a = some o) : SetP w h' a l :=
  let ⟨o, arr, ep, t, b⟩ := x
  ⟨o, arr, ep, t, k o b.at_, b.ex, b.dat, b.perm, b.few, b.fit, b.ris, b.led⟩
section
variable {P : Program} {w : World} {A : Around} {E : Value → Shared → Prop} {s : Shared} {a : Addr}
/-- what is laid is stored; where the table is full it is laid anew -/
theorem box_store {rl : Bool → Sem Unit} (hrl : ∀ (b : Bool) (z : Shared) (Q' : Unit → Shared → Prop), Q' () z → wpAny (model P w) A (rl b) Q' E z) {o : Obj} {arr n : Array (Int × Value)} {ep : Nat} {t u : SetTable} {l l' : List (Int × Value)}
    (b : Box w s.heap a o arr ep t l) (pn : n.toList.Perm l') (fw : n.size < scanBound) (ft : u.fits n.size = true) (rs : Ris u.place.toList) (ld : w.params.followText "set-order" = true ∨ u.led = true) {full : Bool}
    {R : Option Bool → Shared → Prop} (k : ∀ h', Heap.SameBut a s.heap h' → SetP w h' a l' → R (some true) { s with heap := h' }) :
    wpAny (model P w) A (storeSet a n u >>= fun _ => if (!full && u.tooFull) = true then (rl (relayAll u n (SetTable.grown n.size)).2.2 >>= fun _ =>
      storeSet a (relayAll u n (SetTable.grown n.size)).1 (relayAll u n (SetTable.grown n.size)).2.1 >>= fun _ => pure (some true)) else pure (some true)) R E s := by
  have e1 := store_at (es' := n) (t' := u) b.at_ b.dat
  have sb := Heap.SameBut.update s.heap a (Obj.putSet n u)
  refine wpAny_bind (wpAny_storeSet_of b.at_ b.dat ?_ (fits_of_scanBound fw))
  by_cases c : (!full && u.tooFull) = true
  · rw [if_pos c]
    have p2 := relayAll_perm u n (SetTable.grown n.size)
    have f2 := relayAll_fits u n (SetTable.grown n.size)
    have r2 := relayAll_ris u n (SetTable.grown n.size)
    have l2 := relayAll_led u n (SetTable.grown n.size)
    have z2 : (relayAll u n (SetTable.grown n.size)).1.size = n.size := by
      have := p2.length_eq
      simpa using this
    have w2 : (relayAll u n (SetTable.grown n.size)).1.size < scanBound := by rw [z2]; exact fw
    refine wpAny_bind (hrl _ _ _ (wpAny_bind (wpAny_storeSet_of e1 rfl (wpAny_pure ?_) (fits_of_scanBound w2))))
    exact k _ (sb.trans (Heap.SameBut.update _ a _)) ⟨_, _, _, _, store_at e1 rfl, b.ex, rfl, p2.trans pn, w2, f2, r2, ld.imp id fun y => by rw [l2]; exact y⟩
  · rw [if_neg c]
    exact wpAny_pure (k _ sb ⟨_, _, _, _, e1, b.ex, rfl, pn, fw, ft, rs, ld⟩)
/-- a member is put in, found by value -/
theorem setP_add {κ : Type} [DecidableEq κ] {knd : KeyKind P w κ} {k : κ} {x : Value} {l : List (Int × Value)} {Q : Bool → Shared → Prop} (hk : knd.is k x = true) (hs : x.scannable = true) (S : SetP w s.heap a l) (el : ElemsOf knd l) (room : l.length + 1 < scanBound)
    (old : (∃ e ∈ l, knd.is k e.2 = true) → Q false s) (new : (∀ e ∈ l, knd.is k e.2 = false) → ∀ h', Heap.SameBut a s.heap h' → SetP w h' a ((knd.hash k, x) :: l) → Q true { s with heap := h' }) :
    wpAny (model P w) A (setAddHashed a x (knd.hash k)) Q E s := by
  obtain ⟨o, arr, ep, t, b⟩ := S
  have ela : ElemsOf knd arr.toList := el.perm b.perm
  unfold setAddHashed setAddHashedIn
  refine wpAny_holding (wpAny_bind (wpAny_setState_of b.at_ b.dat b.fit ?_))
  dsimp only
  rw [byScan_of hs b.few ela]
  simp only [↓reduceIte]
  unfold setAddByScan
  refine wpAny_bind (wpAny_bind (wpAny_rule (wpAny_bind (wpAny_setScan_of hk b.at_ b.dat b.fit ela ?_))))
  cases hf : List.findIdx? (fun e => knd.is k e.2) arr.toList with
  | some j =>
    obtain ⟨hj, pj, _⟩ := List.findIdx?_eq_some_iff_getElem.mp hf
    exact wpAny_pure (wpAny_pure (old ⟨arr.toList[j], b.perm.mem_iff.mp (List.getElem_mem hj), pj⟩))
  | none =>
    have no : ∀ e ∈ l, knd.is k e.2 = false := fun e he => by
      have := List.findIdx?_eq_none_iff.mp hf e (b.perm.mem_iff.mpr he)
      simpa using this
    dsimp only
    have pm := layNew_perm t arr (knd.hash k) x
    have f1 := layNew_fits t arr (knd.hash k) x
    have r1 := layNew_ris t arr (knd.hash k) x b.ris
    have l1 := layNew_led t arr (knd.hash k) x
    generalize layNew t arr (knd.hash k) x = Z at pm f1 r1 l1 ⊢
    obtain ⟨n, u, wd, gv⟩ := Z
    dsimp only at pm f1 r1 l1 ⊢
    rw [Array.toList_push] at pm
    have pn : n.toList.Perm ((knd.hash k, x) :: l) := (pm.trans (List.perm_append_singleton _ _)).trans (b.perm.cons _)
    have fw : n.size < scanBound := by
      have := pn.length_eq
      simp only [Array.length_toList, List.length_cons] at this
      omega
    have ld : w.params.followText "set-order" = true ∨ u.led = true := b.led.imp id fun y => by rw [l1]; exact y
    have fin := fun (h' : Heap) (sb : Heap.SameBut a s.heap h') (sp : SetP w h' a ((knd.hash k, x) :: l)) => new no h' sb sp
    have quiet : ∀ (c : Bool) (z : Shared) (Q' : Unit → Shared → Prop), Q' () z → wpAny (model P w) A (match c with
        | true => rule "set.scan.the-table-gave-way"
        | false => pure ()) Q' E z := fun c z Q' q => by
      cases c
      · exact wpAny_pure q
      · exact wpAny_rule q
    refine wpAny_bind (quiet _ _ _ ?_)
    split
    · refine wpAny_bind ?_
      rw [hashByValue_scannable 8 hs]
      refine wpAny_pure ?_
      refine box_store quiet b pn fw ?_ ?_ ?_ fun h' sb sp => wpAny_pure (fin h' sb sp)
      · split
        · exact f1
        · exact SetTable.fits_plain_off f1
      · split <;> exact r1
      · split <;> exact ld
    · refine wpAny_bind (wpAny_pure ?_)
      simp only [↓reduceIte]
      exact box_store quiet b pn fw f1 r1 ld fun h' sb sp => wpAny_pure (fin h' sb sp)
end

/-- what the set holds of the keys ks -/
structure Got {P : Program} {w : World} {κ : Type} [DecidableEq κ] (knd : KeyKind P w κ) (rd : Value → κ) (ks : List κ) (l : List (Int × Value)) : Prop where
  el : ElemsOf knd l
  nd : (l.map fun e => rd e.2).Nodup
  mem : ∀ k, k ∈ (l.map fun e => rd e.2) ↔ k ∈ ks
section
variable {P : Program} {w : World} {κ : Type} [DecidableEq κ] {knd : KeyKind P w κ} {rd : Value → κ} (hrd : ∀ k v, knd.is k v = true → rd v = k)
include hrd
theorem Got.key {l : List (Int × Value)} (el : ElemsOf knd l) {e : Int × Value} (he : e ∈ l) {k : κ} : knd.is k e.2 = true ↔ rd e.2 = k := by
  obtain ⟨⟨j, hj, _⟩, _⟩ := el e he
  refine ⟨hrd k e.2, fun z => ?_⟩
  have := hrd j e.2 hj
  rw [← z, this]; exact hj
theorem Got.old {ks : List κ} {l : List (Int × Value)} (g : Got knd rd ks l) {k : κ} (h : ∃ e ∈ l, knd.is k e.2 = true) : Got knd rd (ks ++ [k]) l := by
  obtain ⟨e, he, hk⟩ := h
  refine ⟨g.el, g.nd, fun j => ?_⟩
  rw [g.mem j, List.mem_append, List.mem_singleton]
  refine ⟨.inl, fun z => z.elim id fun q => ?_⟩
  rw [q]
  exact (g.mem k).mp (List.mem_map.mpr ⟨e, he, hrd k e.2 hk⟩)
theorem Got.new {ks : List κ} {l : List (Int × Value)} (g : Got knd rd ks l) {k : κ} {x : Value} (hk : knd.is k x = true) (hs : x.scannable = true) (no : ∀ e ∈ l, knd.is k e.2 = false) : Got knd rd (ks ++ [k]) ((knd.hash k, x) :: l) := by
  have hx := hrd k x hk
  refine ⟨fun e he => ?_, ?_, fun j => ?_⟩
  · rcases List.mem_cons.mp he with q | q
    · rw [q]; exact ⟨⟨k, hk, rfl⟩, hs⟩
    · exact g.el e q
  · rw [List.map_cons]
    refine List.nodup_cons.mpr ⟨fun z => ?_, g.nd⟩
    obtain ⟨e, he, q⟩ := List.mem_map.mp z
    have := (Got.key hrd g.el he (k := k)).mpr (q.trans hx)
    rw [no e he] at this; cases this
  · rw [List.map_cons, List.mem_cons, g.mem j, List.mem_append, List.mem_singleton]
    show j = rd x ∨ _ ↔ _
    rw [hx]
    exact Or.comm
/-- set.update's loop over keys that are found by value -/
theorem update_by_value {A : Around} {I : Addr} {fp wr : List Addr} {G : Array GenState → Array GenState → Prop} {n : Nat} {Pv : Nat → Value → Prop} {Sn : Nat → Shared → Prop} {R : Result → Shared → Prop}
    (W : WalksS P w A.in1 I fp wr G n Pv Sn) (S : Addr) (nf : S ∉ fp) (ks : List κ) (hn : n = ks.length) (few : ks.length + 1 < scanBound) (val : ∀ i v, Pv i v → ∃ k, ks[i]? = some k ∧ knd.is k v = true ∧ v.scannable = true) :
    ∀ (left i : Nat) (s : Shared), n = i + left → Sn i s → (∃ l, l.length ≤ i ∧ SetP w s.heap S l ∧ Got knd rd (ks.take i) l) →
      (∀ s' l, Moved (S :: wr) G s s' → SetP w s'.heap S l → Got knd rd ks l → R (.ok (.ret .none)) s') →
      codeAny (model P w) A (.builtin "set.update.loop" ⟨[.ref S, .ref I], []⟩) R s := by
  have nw : S ∉ wr := fun h => nf (W.sub _ h)
  have sub : ∀ b ∈ wr, b ∈ S :: wr := fun b hb => List.mem_cons_of_mem _ hb
  intro left
  induction left with
  | zero =>
    rintro i s hi st ⟨l, hl, sp, g⟩ k
    obtain rfl : n = i := hi
    refine codeAny_builtin F.entry_set_update_loop ?_
    rw [Around.under_plainId F.plain_set_update_loop _]
    refine wpAny_bind (W.done s _ _ st fun s' mv => wpAny_pure (k s' l (mv.mono sub) (sp.mv fun o e => mv.heap S o nw e) ?_))
    rwa [List.take_of_length_le (by omega)] at g
  | succ left ih =>
    rintro i s hi st ⟨l, hl, sp, g⟩ k
    have lt : i < n := by omega
    refine codeAny_builtin F.entry_set_update_loop ?_
    rw [Around.under_plainId F.plain_set_update_loop _]
    refine wpAny_bind (W.item i s _ _ lt st fun v s1 pv st1 mv => ?_)
    obtain ⟨key, ek, hk, hs⟩ := val i v pv
    have sp1 : SetP w s1.heap S l := sp.mv fun o e => mv.heap S o nw e
    have next : (ks.take (i + 1)) = ks.take i ++ [key] := by rw [List.take_add_one, ek]; rfl
    refine wpAny_bind (wpAny_holding ?_)
    unfold setAdd
    refine wpAny_holding (wpAny_bind (knd.pyHash hk ?_))
    have again : ∀ (h' : Heap) (tk : Nat) (l' : List (Int × Value)), Heap.SameBut S s1.heap h' → s1.toks ≤ tk → l'.length ≤ i + 1 → SetP w h' S l' → Got knd rd (ks.take (i + 1)) l' →
        codeAny (model P w) A (.builtin "set.update.loop" ⟨[.ref S, .ref I], []⟩) R { s1 with heap := h', toks := tk } := fun h' tk l' sb ht hl' sp' g' => by
      have kept : ∀ b o, b ≠ S → s1.heap.get? b = some o → h'.get? b = some o := fun b o hb e => by rw [sb.2 b hb]; exact e
      refine ih (i + 1) _ (by omega) (W.frame _ s1 _ _ st1 ht fun b hb o e => kept b o (fun z => nf (z ▸ hb)) e) ⟨l', hl', sp', g'⟩ fun z2 l2 mv2 sp2 g2 => k z2 l2 ?_ sp2 g2
      refine ⟨fun b o hb e => ?_, W.gtrans _ _ _ mv.gens mv2.gens, mv2.drawn.trans mv.drawn, mv2.os.trans mv.os, Nat.le_trans mv.toks (Nat.le_trans ht mv2.toks)⟩
      have nb : b ≠ S ∧ b ∉ wr := ⟨fun z => hb (by rw [z]; exact List.mem_cons_self), fun z => hb (sub b z)⟩
      exact mv2.heap b o hb (kept b o nb.1 (mv.heap b o nb.2 e))
    refine setP_add (s := { s1 with toks := s1.toks + 1 }) hk hs sp1 g.el (by omega) (fun ex => ?_) fun no h' sb sp2 => ?_
    · exact wpAny_pure ⟨plainId_quiet F.plain_set_update_loop _, again s1.heap _ l (Heap.SameBut.refl S _) (Nat.le_succ _) (by omega) sp1 (by rw [next]; exact g.old hrd ex)⟩
    · exact wpAny_pure ⟨plainId_quiet F.plain_set_update_loop _, again h' _ _ sb (Nat.le_succ _) (by simp; omega) sp2 (by rw [next]; exact g.new hrd hk hs no)⟩
end

abbrev newSet0 (w : World) : Obj := { cls := .type "set", dict := none, data := .set #[] 0 (.fresh 0 0 (!w.params.followText "set-order")) }
theorem setP_fresh {w : World} {h : Heap} {a : Addr} (e : h.get? a = some (newSet0 w)) : SetP w h a [] := by
  refine ⟨_, _, _, _, e, ⟨rfl, rfl, rfl⟩, rfl, .refl _, by unfold scanBound; decide, rfl, .nil, ?_⟩
  cases w.params.followText "set-order"
  · exact .inr rfl
  · exact .inl rfl
section
variable {P : Program} {w : World} {A : Around} {E : Value → Shared → Prop} {s : Shared} {κ : Type} [DecidableEq κ] {knd : KeyKind P w κ} {rd : Value → κ}
set_option maxHeartbeats 3200000 in
/-- set(t), t a tuple of keys that are found by value -/
theorem set_of_tuple (hrd : ∀ k v, knd.is k v = true → rd v = k) {l : Addr} {items : Array Value} (ks : List κ) {Q : Value → Shared → Prop} (hh : A.handled = none) (hl : s.heap.IsTuple l items) (hz : items.size = ks.length) (few : ks.length + 1 < scanBound)
    (val : ∀ (i : Nat) v, items[i]? = some v → ∃ k, ks[i]? = some k ∧ knd.is k v = true ∧ v.scannable = true)
    (h : ∀ (h' : Heap) (tk : Nat) (m : List (Int × Value)), SetP w h' s.heap.objs.size m → Got knd rd ks m → (∀ b o, s.heap.get? b = some o → h'.get? b = some o) → Q (.ref s.heap.objs.size) { s with heap := h', toks := tk }) :
    wpAny (model P w) A (call (.type "set") [.ref l]) Q E s := by
  -- the type's own call: __new__, then __init__
  obtain ⟨c, tl, hmro⟩ := F.called_set.mro
  have hmade := F.called_set.made
  have hsub := F.called_set.sub
  have nt := F.called_set.notType
  have cc := F.called_set.canCreate
  have tc := F.typeCall_set_1 (.ref l)
  refine wpAny_call (codeAny_of_tree (wpAny_pure ⟨Code.quiet_builtin _ (by decide +kernel), codeAny_builtin F.entry_type_call ?_⟩))
  rw [Around.under_plain (weight_type_call_type "set" [.ref l] []) rfl]
  repeat (any_goals (first | assumption | wp_step))
  refine codeAny_mono (code_set_led1 (.ref l) (E := E) (Q₁ := fun obj z => obj = .ref s.heap.objs.size ∧ z = { s with heap := s.heap.push (newSet0 w) }) ⟨rfl, rfl⟩) fun r z hr => ?_
  cases r with
  | error e => exact hr
  | ok fl =>
    cases fl with
    | ret obj =>
      obtain ⟨rfl, rfl⟩ := hr
      have atS : (s.heap.push (newSet0 w)).get? s.heap.objs.size = some (newSet0 w) := by exact Heap.get?_push_size _ rfl
      have tyS : Shared.TypeIs { s with heap := s.heap.push (newSet0 w) } (.ref s.heap.objs.size) "set" := ⟨_, atS, rfl⟩
      have li := F.called_set.init.lookup
      have bi := F.called_set.init.bind (.ref s.heap.objs.size)
      repeat (any_goals (first | assumption | wp_step))
      refine codeAny_mono (codeAny_call_builtin (R := wants (fun r z => r = .none ∧ ∃ h' tk m, z = { s with heap := h', toks := tk } ∧ SetP w h' s.heap.objs.size m ∧ Got knd rd ks m ∧
          (∀ b o, s.heap.get? b = some o → h'.get? b = some o)) E) F.called_set.init.plain F.entry_set_init (check_set_init_1 tyS ?_)) fun r₂ s₂ hr₂ => ?_
      · obtain ⟨⟨oc, od, odt, osl⟩, hol, hcl, nl, hdl⟩ := hl
        simp only at hcl hdl
        subst hcl hdl
        have atl : (s.heap.push (newSet0 w)).get? l = some { cls := .type "tuple", dict := od, data := .seq items nl, slots := osl } := Heap.get?_push_of_some _ hol
        have x1 := F.sub_tuple_set
        have x2 := F.sub_tuple_frozenset
        have x3 : (Value.type "tuple" == Value.type "dict") = false := by decide
        have isl : (s.heap.push (newSet0 w)).IsTuple l items := ⟨_, atl, rfl, nl, rfl⟩
        unfold Builtin.«set.__init__» noKeywords Builtin.Frozenset.updateFrom
        generalize hPI : pyIter = PI
        wp_walk
        subst hPI
        refine wpAny_pyIter_tuple isl ?_
        refine wpAny_bind (wpAny_runValue ?_)
        have lt : l < s.heap.objs.size := Heap.lt_size hol
        have h3 : A.in1.in1.in1.handled = none := by simp [hh]
        have sz : (s.heap.push (newSet0 w)).objs.size = s.heap.objs.size + 1 := Heap.size_push ..
        have ne : l ≠ (s.heap.push (newSet0 w)).objs.size := by rw [sz]; exact Nat.ne_of_lt (Nat.lt_succ_of_lt lt)
        have nf : s.heap.objs.size ∉ [(s.heap.push (newSet0 w)).objs.size, l] := by
          simp only [List.mem_cons, List.not_mem_nil, or_false, not_or]
          rw [sz]
          exact ⟨Nat.ne_of_lt (Nat.lt_succ_self _), Nat.ne_of_gt lt⟩
        refine update_by_value hrd ((Walks.tuple h3 _ l ne items).toS) s.heap.objs.size nf ks hz few val items.size 0 _ (by omega)
          ⟨⟨_, Heap.get?_push_size _ rfl, rfl, rfl⟩, (isl.push _)⟩ ⟨[], Nat.le_refl 0, ?_, Got.mk (fun e he => nomatch he) List.nodup_nil (fun k => by simp)⟩ fun z m mv sp g => ?_
        · exact setP_fresh (Heap.get?_push_of_some _ atS)
        · obtain ⟨h', g2, d', tk', os'⟩ := z
          have eg : g2 = s.gens := mv.gens
          have ed : d' = s.drawn := mv.drawn
          have eo : os' = s.os := mv.os
          subst eg ed eo
          refine wpAny_pure (wpAny_pure ⟨rfl, h', tk', m, rfl, sp, g, fun b o e => ?_⟩)
          have hb : b < s.heap.objs.size := Heap.lt_size e
          refine mv.heap b o ?_ (Heap.get?_push_of_some _ (Heap.get?_push_of_some _ e))
          have q : b ≠ s.heap.objs.size := Nat.ne_of_lt hb
          have q2 : b ≠ (s.heap.push (newSet0 w)).objs.size := by rw [Heap.size_push]; exact Nat.ne_of_lt (Nat.lt_succ_of_lt hb)
          intro z
          rcases List.mem_cons.mp z with z | z
          · exact q z
          · exact q2 (List.mem_singleton.mp z)
      · cases r₂ with
        | error e => exact hr₂
        | ok fl₂ =>
          cases fl₂ with
          | ret r =>
            obtain ⟨rfl, h', tk, m, rfl, sp, g, kp⟩ := hr₂
            repeat (any_goals (first | assumption | wp_step))
            exact h _ _ _ sp g kp
          | _ => exact hr₂.elim
    | _ => exact hr.elim
end
end RF
end
section
set_option Elab.async false
set_option linter.all false
set_option maxRecDepth 100000
/-! set(t) of texts, sorted(S): by the layer. -/
namespace RF
open PySem PySem.Spec PyProof.Rows L2

def rdS : Value → Str
  | .str x _ => x
  | _ => ⟨#[]⟩
theorem rdS_is : ∀ (k : Str) (v : Value), Value.isStrOf k v = true → rdS v = k := fun k v h => by
  obtain ⟨t, rfl⟩ := Value.isStrOf_shape h; rfl
/-- a set of texts: as if those of xs were put in -/
def SetS (P : Program) (w : World) (a : Addr) (xs : List Str) : HO := .ext fun h => ∃ l, SetP w h a l ∧ Got (PySem.strKind P w) rdS xs l
section
variable {X : Cx} {pins : List (Addr × Obj)} {σ : L2.St} {H : Hp} {s : Shared}
theorem setS_new {P : Program} {w : World} {H : Hp} {h : Heap} {a : Addr} {xs : List Str} {l : List (Int × Value)} (S : SetP w h a l) (G : Got (PySem.strKind P w) rdS xs l) : ObjOk P w H h a (SetS P w a xs) := by
  refine ⟨⟨l, S, G⟩, ?_, fun h1 h2 ⟨m, s1, g1⟩ k => ⟨m, s1.mv k, g1⟩⟩
  obtain ⟨o, arr, ep, t, b⟩ := S
  exact ⟨o, b.at_⟩
def rSetS (X : Cx) : List V → Hp → VK → Prop := fun vs H Q => ∃ (p : Addr) (xs : List Str), vs = [V.ref p] ∧ SqT X.K H p (xs.map V.str) ∧ xs.length + 1 < scanBound ∧ ∀ q, H q = none → Q (.ref q) (upd H q (SetS X.prog X.w q xs))
theorem strsAre_at : ∀ {us : List Value} {xs : List Str}, StrsAre us xs → ∀ (i : Nat) v, us[i]? = some v → ∃ k, xs[i]? = some k ∧ Value.isStrOf k v = true ∧ v.scannable = true
  | _, _, .nil, i, v, h => by cases h
  | _, _, .cons y t r, 0, v, h => by
    cases h
    exact ⟨y, rfl, by simp [Value.isStrOf], rfl⟩
  | _, _, .cons y t r, i + 1, v, h => strsAre_at r i v h
theorem cr_setS (hc : X.calm = true) : CallR X (.type "set") (rSetS X) := by
  intro pins s σ H vs us Q I r h
  obtain ⟨p, xs, rfl, hs, few, q⟩ := h
  obtain ⟨its, rv, hl, hz⟩ := I.tuple hs
  rw [Vals.ref1 r]
  have st := rv.strs
  have hn : its.toArray.size = xs.length := by
    have := rv.length
    simpa using this.symm
  refine set_of_tuple (knd := PySem.strKind X.prog X.w) (rd := rdS) rdS_is xs (I.ok.hd hc) (show s.heap.IsTuple p its.toArray from hl) hn few (fun i v e => strsAre_at st i v (by simpa using e)) fun h' tk m sp g kp => ?_
  exact ⟨.ref _, upd H s.heap.objs.size (SetS X.prog X.w s.heap.objs.size xs), I.laid (t' := tk) kp (Nat.le_refl _) (setS_new sp g), rfl, q _ I.fresh⟩
theorem strs_of (vs : List Value) : (∀ v ∈ vs, ∃ x t, v = Value.str x t) → StrsAre vs (vs.map rdS) := by
  induction vs with
  | nil => intro _; exact .nil
  | cons v vs ih =>
    intro h
    obtain ⟨x, t, rfl⟩ := h _ List.mem_cons_self
    exact .cons x t (ih fun v hv => h v (List.mem_cons_of_mem _ hv))
def rSortedSetS (X : Cx) : List V → Hp → VK → Prop := fun vs H Q => ∃ (a : Addr) (xs : List Str), vs = [V.ref a] ∧ H a = some (SetS X.prog X.w a xs) ∧ xs.length ≤ sizeLine ∧
  ∀ (ys : List Str) (p : Addr), ys.Nodup → (∀ k, k ∈ ys ↔ k ∈ xs) → sortedS ys = true → H p = none → Q (.ref p) (upd H p (.lst (ys.map V.str)))
theorem nodup_sub_len {α : Type} [DecidableEq α] : ∀ {a b : List α}, a.Nodup → (∀ k, k ∈ a → k ∈ b) → a.length ≤ b.length
  | [], _, _, _ => Nat.zero_le _
  | x :: a, b, hn, hs => by
    have h1 := List.nodup_cons.mp hn
    have hx := hs x List.mem_cons_self
    have ih := nodup_sub_len (a := a) (b := b.erase x) h1.2 fun k hk => (List.mem_erase_of_ne (fun z => h1.1 (by rw [← z]; exact hk))).mpr (hs k (List.mem_cons_of_mem _ hk))
    have := List.length_erase_of_mem hx
    have := List.length_pos_of_mem hx
    simp only [List.length_cons]
    omega
theorem cr_sortedSetS (hc : X.calm = true) : CallR X (.builtin "sorted") (rSortedSetS X) := by
  intro pins s σ H vs us Q I r h
  obtain ⟨a, xs, rfl, ha, hz, q⟩ := h
  rw [Vals.ref1 r]
  obtain ⟨l, ⟨o, arr, ep, t, b⟩, g⟩ := (I.hok a _ ha).1
  refine Calls.call_function_entry kind_sorted plain_sorted entry_sorted (args_sorted1 _) ?_
  unfold Builtin.«sorted»
  refine wpAny_bind (m := checkCount "sorted" 1 1 _) (wpAny_pure ?_)
  refine wpAny_bind (collect_set (A := X.A.in1) (I.ok.hd hc) ⟨o, b.at_, b.ex.1, b.dat⟩ b.fit b.few b.ris b.led fun s1 vs k1 hz1 g1 o1 pm => ?_)
  have pk : (vs.map rdS).Perm (l.map fun e => rdS e.2) := by
    have h1 := pm.map rdS
    have h2 := b.perm.map fun e => rdS e.2
    rw [List.map_map] at h1
    exact h1.trans h2
  have hS : StrsAre vs (vs.map rdS) := strs_of vs fun v hv => by
    obtain ⟨e, he, q⟩ := List.mem_map.mp (pm.mem_iff.mp hv)
    obtain ⟨⟨k, h1, _⟩, _⟩ := g.el e (b.perm.mem_iff.mp he)
    obtain ⟨t, h2⟩ := Value.isStrOf_shape h1
    exact ⟨k, t, by rw [← q]; exact h2⟩
  have hnd : (vs.map rdS).Nodup := pk.nodup_iff.mpr g.nd
  have hmem : ∀ k, k ∈ vs.map rdS ↔ k ∈ xs := fun k => by rw [pk.mem_iff]; exact g.mem k
  have hvl : vs.length ≤ sizeLine := by
    have := nodup_sub_len hnd fun k hk => (hmem k).mp hk
    rw [List.length_map] at this
    exact Nat.le_trans this hz
  refine wpAny_bind (wpAny_newList ?_ hvl)
  have hoL : (s1.heap.push (seqObj "list" vs.toArray 0)).get? s1.heap.objs.size = some (seqObj "list" vs.toArray 0) := Heap.get?_push_size _ rfl
  refine wpAny_bind (wpAny_holding (wpAny_call_entry slot_list_sort ⟨_, hoL, rfl⟩ entry_list_sort (list_sort_treeKAny strKind_oneLt hoL hS.keysOf (fun v₁ v₂ rest e => keyKind_strs (by rw [← e]; exact hS)) hvl fun st' hp hs => ⟨_, rfl, ?_⟩) (args_list_sort _)))
  obtain ⟨ss', h1, h2, h3⟩ := sorted_out_str hS hp hs
  obtain ⟨c, hcc⟩ := sortedHeap_at (vs := vs) (out := (arrOf st').map (·.2)) hoL
  have kp : ∀ b o, s.heap.get? b = some o → (sortedHeap (s1.heap.push (seqObj "list" vs.toArray 0)) s1.heap.objs.size vs ((arrOf st').map (·.2))).get? b = some o := fun b u e => by
    have q := k1 b u e
    have hlt := Heap.lt_size q
    rw [sortedHeap_old (Nat.ne_of_lt hlt) (by rw [size_push']; exact Nat.lt_succ_of_lt hlt)]
    exact Heap.get?_push_of_some _ q
  have hlen : (ss'.map V.str).length ≤ sizeLine := by
    rw [List.length_map, h2.length_eq, List.length_map]; exact hvl
  have fr := I.hok.fresh hz1
  have J : Inv X pins σ (upd H s1.heap.objs.size (.lst (ss'.map V.str))) { s with heap := sortedHeap (s1.heap.push (seqObj "list" vs.toArray 0)) s1.heap.objs.size vs ((arrOf st').map (·.2)), gens := s1.gens, drawn := s1.drawn, toks := s1.toks } :=
    I.call (ch := []) (Un.laid kp hz1 fr) (I.hok.laid kp hz1 ⟨hlen, _, c, vals_of_strs h1, hcc⟩) (by rw [g1]; exact I.bare) (fun _ z => nomatch z)
  refine wpAny_pure ⟨_, rfl, .ref _, _, ?_, rfl, q ss' _ (h2.nodup_iff.mpr hnd) (fun k => by rw [h2.mem_iff]; exact hmem k) h3 fr⟩
  have e : ({ s1 with heap := sortedHeap (s1.heap.push (seqObj "list" vs.toArray 0)) s1.heap.objs.size vs ((arrOf st').map (·.2)) } : Shared) = { s with heap := sortedHeap (s1.heap.push (seqObj "list" vs.toArray 0)) s1.heap.objs.size vs ((arrOf st').map (·.2)), gens := s1.gens, drawn := s1.drawn, toks := s1.toks } := by
    cases s1
    cases s
    cases o1
    rfl
  first
    | exact J
    | (rw [← e] at J; exact J)
end
/-! ### the order of texts -/
theorem ltC_irr : ∀ a : List Nat, ltCps a a = false
  | [] => rfl
  | a :: r => by simp [ltCps, ltC_irr r]
theorem ltC_total : ∀ a b : List Nat, ltCps a b = false → ltCps b a = false → a = b
  | [], [], _, _ => rfl
  | [], _ :: _, h, _ => by cases h
  | _ :: _, [], _, h => by cases h
  | a :: r, b :: t, h, h' => by
    simp only [ltCps, Bool.or_eq_false_iff, Bool.and_eq_false_iff, decide_eq_false_iff_not, beq_eq_false_iff_ne] at h h'
    have e : a = b := by omega
    subst e
    rw [ltC_total r t (h.2.resolve_left (fun z => z rfl)) (h'.2.resolve_left (fun z => z rfl))]
theorem ltC_trans : ∀ a b c : List Nat, ltCps b a = false → ltCps c b = false → ltCps c a = false
  | [], b, [], _, _ => rfl
  | [], [], _ :: _, h, h' => rfl
  | [], _ :: _, _ :: _, h, h' => rfl
  | a :: r, [], [], h, h' => by cases h
  | a :: r, b :: t, [], h, h' => by cases h'
  | a :: r, [], c :: u, h, h' => by cases h
  | a :: r, b :: t, c :: u, h, h' => by
    simp only [ltCps, Bool.or_eq_false_iff, Bool.and_eq_false_iff, decide_eq_false_iff_not, beq_eq_false_iff_ne] at h h' ⊢
    refine ⟨by omega, ?_⟩
    by_cases e : c = a
    · subst e
      have e2 : b = c := by omega
      subst e2
      exact .inr (ltC_trans r t u (h.2.resolve_left (fun z => z rfl)) (h'.2.resolve_left (fun z => z rfl)))
    · exact .inl e
theorem leS_refl (x : Str) : leS x x = true := by unfold leS; rw [ltC_irr]; rfl
theorem leS_trans {x y z : Str} (h : leS x y = true) (h' : leS y z = true) : leS x z = true := by
  unfold leS at *
  simp only [Bool.not_eq_true'] at *
  exact ltC_trans _ _ _ h h'
theorem leS_antisymm {x y : Str} (h : leS x y = true) (h' : leS y x = true) : x = y := by
  unfold leS at *
  simp only [Bool.not_eq_true'] at *
  have := ltC_total _ _ h' h
  cases x
  cases y
  simp only [Str.mk.injEq]
  exact Array.ext' this
theorem ltC_asym : ∀ a b : List Nat, ltCps a b = true → ltCps b a = false
  | [], [], h => by cases h
  | [], _ :: _, _ => rfl
  | _ :: _, [], h => by cases h
  | a :: r, b :: t, h => by
    simp only [ltCps, Bool.or_eq_true, Bool.and_eq_true, decide_eq_true_eq, beq_iff_eq] at h
    simp only [ltCps, Bool.or_eq_false_iff, Bool.and_eq_false_iff, decide_eq_false_iff_not, beq_eq_false_iff_ne]
    rcases h with h | ⟨h1, h2⟩
    · exact ⟨by omega, .inl (by omega)⟩
    · exact ⟨by omega, .inr (ltC_asym _ _ h2)⟩
theorem leS_total (x y : Str) (h : leS x y = false) : leS y x = true := by
  unfold leS at *
  simp only [Bool.not_eq_false', Bool.not_eq_true'] at *
  exact ltC_asym _ _ h
theorem rising_pw : ∀ (xs : List Str) (p : Str), risingS p xs = true → (∀ x ∈ xs, leS p x = true) ∧ xs.Pairwise (fun a b => leS a b = true)
  | [], _, _ => ⟨fun _ h => (nomatch h), List.Pairwise.nil⟩
  | x :: xs, p, h => by
    unfold risingS at h
    rw [Bool.and_eq_true] at h
    obtain ⟨h1, h2⟩ := rising_pw xs x h.2
    have hp : leS p x = true := h.1
    refine ⟨fun y hy => ?_, List.pairwise_cons.mpr ⟨h1, h2⟩⟩
    rcases List.mem_cons.mp hy with rfl | hy
    · exact hp
    · exact leS_trans hp (h1 y hy)
theorem sortedS_pw {xs : List Str} (h : sortedS xs = true) : xs.Pairwise (fun a b => leS a b = true) := by
  cases xs with
  | nil => exact .nil
  | cons x xs =>
    obtain ⟨h1, h2⟩ := rising_pw xs x h
    exact List.pairwise_cons.mpr ⟨h1, h2⟩
theorem insS_perm (x : Str) : ∀ l : List Str, (insS x l).Perm (x :: l)
  | [] => .refl _
  | y :: r => by
    unfold insS
    split
    · exact .refl _
    · exact ((insS_perm x r).cons y).trans (.swap x y r)
theorem sortS_perm : ∀ l : List Str, (sortS l).Perm l
  | [] => .refl _
  | x :: r => (insS_perm x _).trans ((sortS_perm r).cons x)
theorem insS_sorted (x : Str) : ∀ l : List Str, l.Pairwise (fun a b => leS a b = true) → (insS x l).Pairwise (fun a b => leS a b = true)
  | [], _ => by unfold insS; simp
  | y :: r, h => by
    unfold insS
    have h' := List.pairwise_cons.mp h
    split
    · rename_i hx
      refine List.pairwise_cons.mpr ⟨fun z hz => ?_, h⟩
      rcases List.mem_cons.mp hz with rfl | hz
      · exact hx
      · exact leS_trans hx (h'.1 z hz)
    · rename_i hx
      refine List.pairwise_cons.mpr ⟨fun z hz => ?_, insS_sorted x r h'.2⟩
      rcases List.mem_cons.mp ((insS_perm x r).mem_iff.mp hz) with rfl | hz
      · exact leS_total _ _ (by simpa using hx)
      · exact h'.1 z hz
theorem sortS_sorted : ∀ l : List Str, (sortS l).Pairwise (fun a b => leS a b = true)
  | [] => .nil
  | x :: r => insS_sorted x _ (sortS_sorted r)
theorem dedup_mem : ∀ (l : List Str) (k : Str), k ∈ dedupS l ↔ k ∈ l
  | [], _ => Iff.rfl
  | x :: r, k => by
    unfold dedupS
    split
    · rename_i h
      rw [dedup_mem r k, List.mem_cons]
      exact ⟨.inr, fun z => z.elim (fun q => by rw [q]; simpa using h) id⟩
    · rw [List.mem_cons, List.mem_cons, dedup_mem r k]
theorem dedup_nodup : ∀ l : List Str, (dedupS l).Nodup
  | [] => .nil
  | x :: r => by
    unfold dedupS
    split
    · exact dedup_nodup r
    · rename_i h
      exact List.nodup_cons.mpr ⟨fun z => h (by simpa using (dedup_mem r x).mp z), dedup_nodup r⟩
theorem sortedSet_one {xs ys : List Str} (nd : ys.Nodup) (m : ∀ k, k ∈ ys ↔ k ∈ xs) (h : sortedS ys = true) : ys = sortS (dedupS xs) := by
  have hp : ys.Perm (dedupS xs) := (List.perm_ext_iff_of_nodup nd (dedup_nodup xs)).mpr fun k => by rw [m k, dedup_mem]
  exact (hp.trans (sortS_perm _).symm).eq_of_pairwise (le := fun a b => leS a b = true) (fun a b _ _ h1 h2 => leS_antisymm h1 h2) (sortedS_pw h) (sortS_sorted _)
end RF
end
section
set_option Elab.async false
set_option linter.all false
set_option maxRecDepth 100000
/-! Readings: the built-in functions. -/
namespace RF
open PySem PySem.Spec PyProof.Rows L2
variable {X : Cx} {Wx : WX}
theorem callR_imp {f : Value} {r r' : List V → Hp → VK → Prop} (h : CallR X f r) (k : ∀ vs H Q, r' vs H Q → r vs H Q) : CallR X f r' := fun pins s σ H xs us Q I rv q => h pins s σ H xs us Q I rv (k _ _ _ q)
theorem strs_fz {K : PySem.W.Frag} {H : Hp} {M : Addr → Prop} : ∀ {ds : List D} {vs : List V} {bs : List Str}, FzAll K H M vs ds → strsD ds = some bs → vs = bs.map V.str ∧ ∀ x ∈ bs, PyData.strOk x = true ∧ x.length ≤ sizeLine
  | [], _, _, f, e => by cases f; cases e; exact ⟨rfl, fun _ h => nomatch h⟩
  | .str b :: ds, _, _, f, e => by
    cases f with
    | cons h t =>
      cases h with
      | str _ h1 h2 =>
        obtain ⟨bs, h3, rfl⟩ := Option.map_eq_some_iff.mp (show (strsD ds).map (b :: ·) = some _ from e)
        obtain ⟨h4, h5⟩ := strs_fz t h3
        rw [h4]
        refine ⟨rfl, fun x hx => ?_⟩
        rcases List.mem_cons.mp hx with rfl | hx
        · exact ⟨h1, h2⟩
        · exact h5 x hx
theorem strs_back {K : PySem.W.Frag} {H : Hp} {M : Addr → Prop} : ∀ ns : List Str, (∀ x ∈ ns, PyData.strOk x = true ∧ x.length ≤ sizeLine) → FzAll K H M (ns.map V.str) (ns.map PyData.str)
  | [], _ => .nil
  | n :: ns, h => .cons (.str n (h n List.mem_cons_self).1 (h n List.mem_cons_self).2) (strs_back ns fun x hx => h x (List.mem_cons_of_mem _ hx))
/-- a flat answer -/
theorem bi_flat {K : PySem.W.Frag} {H : Hp} {μ : List (Option Addr)} {P : Pv} {g g' : Gs} {Q : VK} {z : D} {w : W} {v : V} (p : Post K H μ P Q w g') (r : Rel K H μ P g) (hz : (∃ zs, z = .list zs ∧ newL g zs = .ok w g') ∨ ((∀ zs, z ≠ .list zs) ∧ w = .d z ∧ g' = g))
    (n : ∀ zs, z ≠ .list zs) (f : Fz K H (Ms μ P) v z) : Q v H := by
  obtain ⟨zs, q, _⟩ | ⟨_, rfl, rfl⟩ := hz
  · exact absurd q (n zs)
  · exact p.here r f
theorem bi_list {K : PySem.W.Frag} {H : Hp} {μ : List (Option Addr)} {P : Pv} {g g' : Gs} {Q : VK} {zs : List D} {vs : List V} {w : W} (p : Post K H μ P Q w g') (r : Rel K H μ P g) (hz : (∃ ys, PyData.list zs = .list ys ∧ newL g ys = .ok w g') ∨ ((∀ ys, PyData.list zs ≠ .list ys) ∧ w = .d (.list zs) ∧ g' = g))
    (f : FzAll K H (Ms μ P) vs zs) : ∀ q, H q = none → Q (.ref q) (upd H q (.lst vs)) := by
  obtain ⟨ys, q, e⟩ | ⟨h, _⟩ := hz
  · cases q
    exact p.lst e r f
  · exact absurd rfl (h _)
theorem cb_len : CallR X (.builtin "len") (rBi X.K .len) := by
  refine callR_imp (CallR.or call_len_seq call_len_str) fun vs H Q h => ?_
  obtain ⟨g, μ, P, xs, w, g', r, hp, e, p⟩ := h
  obtain ⟨z, ez, hz⟩ := biW_of e
  rcases xs with _ | ⟨x, _ | ⟨y, t⟩⟩
  · cases ez
  · obtain ⟨v, rfl, hv⟩ := pk1 hp
    cases x <;> first
      | (cases ez; done)
      | skip
    case str x =>
      cases ez
      obtain ⟨rfl, _, hl⟩ := hv.str
      exact .inr ⟨x, rfl, hl, bi_flat p r hz (fun _ z => nomatch z) (.int _)⟩
    case list ds =>
      cases ez
      obtain ⟨a, us, rfl, hq, f⟩ := hv.list
      exact .inl ⟨a, us, rfl, .inl (SqL.of hq), by rw [f.length]; exact bi_flat p r hz (fun _ z => nomatch z) (.int _)⟩
    case tuple ds =>
      cases ez
      obtain ⟨a, us, rfl, hq, f⟩ := hv.tuple
      exact .inl ⟨a, us, rfl, .inr hq, by rw [f.length]; exact bi_flat p r hz (fun _ z => nomatch z) (.int _)⟩
  · cases ez
theorem cb_str : CallR X (.type "str") (rBi X.K .str) := by
  intro pins s σ H vs us Q I ru h
  obtain ⟨g, μ, P, xs, w, g', r, hp, e, p⟩ := h
  obtain ⟨z, ez, hz⟩ := biW_of e
  rcases xs with _ | ⟨x, _ | ⟨y, t⟩⟩
  · cases ez
  · obtain ⟨v, rfl, hv⟩ := pk1 hp
    replace ez : fmtD x = some z := ez
    cases x <;> first
      | (cases ez; done)
      | skip
    case str x =>
      cases ez
      obtain ⟨rfl, h2, h3⟩ := hv.str
      exact SkE.call_str_str pins s σ H _ us Q I ru ⟨x, rfl, bi_flat p r hz (fun _ z => nomatch z) (.str _ h2 h3)⟩
    case int x =>
      cases hv.int
      simp only [fmtD] at ez
      split at ez
      · rename_i hc
        cases ez
        obtain ⟨c1, c2⟩ := Bool.and_eq_true_iff.mp hc
        unfold okS at c2
        obtain ⟨c2, c3⟩ := Bool.and_eq_true_iff.mp c2
        exact call_str_int pins s σ H _ us Q I ru ⟨x, rfl, of_decide_eq_true c1, bi_flat p r hz (fun _ z => nomatch z) (.str _ c2 (of_decide_eq_true c3))⟩
      · cases ez
  · cases x <;> cases ez
theorem cb_int : CallR X (.type "int") (rBi X.K .int) := by
  refine callR_imp call_int1 fun vs H Q h => ?_
  obtain ⟨g, μ, P, xs, w, g', r, hp, e, p⟩ := h
  obtain ⟨z, ez, hz⟩ := biW_of e
  rcases xs with _ | ⟨x, _ | ⟨y, t⟩⟩
  · cases ez
  · obtain ⟨v, rfl, hv⟩ := pk1 hp
    cases x <;> first
      | (cases ez; done)
      | skip
    case int x =>
      cases ez
      cases hv.int
      exact .inl ⟨x, rfl, bi_flat p r hz (fun _ z => nomatch z) (.int _)⟩
    case bool x =>
      cases ez
      cases hv.bl
      exact .inr ⟨x, rfl, bi_flat p r hz (fun _ z => nomatch z) (.int _)⟩
  · cases x <;> cases ez
theorem cb_all (hc : X.calm = true) : CallR X (.builtin "all") (rBi X.K .all) := by
  refine callR_imp (cr_all hc) fun vs H Q h => ?_
  obtain ⟨g, μ, P, xs, w, g', r, hp, e, p⟩ := h
  obtain ⟨z, ez, hz⟩ := biW_of e
  rcases xs with _ | ⟨x, _ | ⟨y, t⟩⟩
  · cases ez
  · obtain ⟨v, rfl, hv⟩ := pk1 hp
    cases x <;> first
      | (cases ez; done)
      | skip
    case list ds =>
      obtain ⟨bs, eb, rfl⟩ := Option.map_eq_some_iff.mp (show (boolsD ds).map _ = some z from ez)
      obtain ⟨a, us, rfl, hq, f⟩ := hv.list
      cases bools_fz f eb
      exact ⟨a, bs, rfl, SqL.of hq, bi_flat p r hz (fun _ z => nomatch z) (.bl _)⟩
  · cases x <;> cases ez
theorem cb_any (hc : X.calm = true) : CallR X (.builtin "any") (rBi X.K .any) := by
  refine callR_imp (cr_any hc) fun vs H Q h => ?_
  obtain ⟨g, μ, P, xs, w, g', r, hp, e, p⟩ := h
  obtain ⟨z, ez, hz⟩ := biW_of e
  rcases xs with _ | ⟨x, _ | ⟨y, t⟩⟩
  · cases ez
  · obtain ⟨v, rfl, hv⟩ := pk1 hp
    cases x <;> first
      | (cases ez; done)
      | skip
    case list ds =>
      obtain ⟨bs, eb, rfl⟩ := Option.map_eq_some_iff.mp (show (boolsD ds).map _ = some z from ez)
      obtain ⟨a, us, rfl, hq, f⟩ := hv.list
      cases bools_fz f eb
      exact ⟨a, bs, rfl, SqL.of hq, bi_flat p r hz (fun _ z => nomatch z) (.bl _)⟩
  · cases x <;> cases ez
theorem cb_tuple : CallR X (.type "tuple") (rBi X.K .tuple) := by
  refine callR_imp call_tuple_of fun vs H Q h => ?_
  obtain ⟨g, μ, P, xs, w, g', r, hp, e, p⟩ := h
  obtain ⟨z, ez, hz⟩ := biW_of e
  rcases xs with _ | ⟨x, _ | ⟨y, t⟩⟩
  · cases ez
  · obtain ⟨v, rfl, hv⟩ := pk1 hp
    cases x <;> first
      | (cases ez; done)
      | skip
    case list ds =>
      cases ez
      obtain ⟨a, us, rfl, hq, f⟩ := hv.list
      refine ⟨a, us, rfl, .inl ⟨SqL.of hq, ?_⟩⟩
      obtain ⟨ys, q, _⟩ | ⟨_, rfl, rfl⟩ := hz
      · cases q
      · exact p.tup r f
    case tuple ds =>
      cases ez
      obtain ⟨a, us, e1, hq, f⟩ := hv.tuple
      subst e1
      exact ⟨a, us, rfl, .inr ⟨hq, bi_flat p r hz (fun _ z => nomatch z) (hv.flat fun _ z => nomatch z)⟩⟩
  · cases ez
theorem cb_list : CallR X (.type "list") (rBi X.K .list) := by
  refine callR_imp call_list_of fun vs H Q h => ?_
  obtain ⟨g, μ, P, xs, w, g', r, hp, e, p⟩ := h
  obtain ⟨z, ez, hz⟩ := biW_of e
  rcases xs with _ | ⟨x, _ | ⟨y, t⟩⟩
  · cases ez
  · obtain ⟨v, rfl, hv⟩ := pk1 hp
    cases x <;> first
      | (cases ez; done)
      | skip
    case list ds =>
      cases ez
      obtain ⟨a, us, rfl, hq, f⟩ := hv.list
      exact ⟨a, us, rfl, .inl (SqL.of hq), bi_list p r hz f⟩
    case tuple ds =>
      cases ez
      obtain ⟨a, us, rfl, hq, f⟩ := hv.tuple
      exact ⟨a, us, rfl, .inr hq, bi_list p r hz f⟩
  · cases ez
theorem cb_sorted : CallR X (.builtin "sorted") (rBi X.K .sorted) := by
  refine callR_imp cr_sorted fun vs H Q h => ?_
  obtain ⟨g, μ, P, xs, w, g', r, hp, e, p⟩ := h
  obtain ⟨z, ez, hz⟩ := biW_of e
  rcases xs with _ | ⟨x, _ | ⟨y, t⟩⟩
  · cases ez
  · obtain ⟨v, rfl, hv⟩ := pk1 hp
    cases x <;> first
      | (cases ez; done)
      | skip
    case list ds =>
      obtain ⟨bs, eb, e2⟩ := Option.bind_eq_some_iff.mp (show (intsD ds).bind _ = some z from ez)
      obtain ⟨hc, rfl⟩ := iteS e2
      obtain ⟨a, us, rfl, hq, f⟩ := hv.list
      cases ints_fz f eb
      refine ⟨a, bs, rfl, SqL.of hq, decT hc, fun ns' q hp hs => ?_⟩
      cases sorted_one hp hs
      exact bi_list p r hz (ints_back _) q
  · cases x <;> cases ez
theorem cb_min2 (hc : X.calm = true) : CallR X (.builtin "min") (rBi X.K .min2) := by
  refine callR_imp (call_min2 hc) fun vs H Q h => ?_
  obtain ⟨g, μ, P, xs, w, g', r, hp, e, p⟩ := h
  obtain ⟨z, ez, hz⟩ := biW_of e
  rcases xs with _ | ⟨x, _ | ⟨y, _ | ⟨u, t⟩⟩⟩
  · cases ez
  · cases x <;> cases ez
  · obtain ⟨v, u, rfl, hv, hu⟩ := pk2 hp
    cases x <;> cases y <;> first
      | (cases ez; done)
      | skip
    case int.int i j =>
      cases ez
      cases hv.int
      cases hu.int
      exact ⟨i, j, rfl, bi_flat p r hz (fun _ z => nomatch z) (.int _)⟩
  · cases x <;> cases y <;> cases ez
theorem cb_max2 (hc : X.calm = true) : CallR X (.builtin "max") (rBi X.K .max2) := by
  refine callR_imp (call_max2 hc) fun vs H Q h => ?_
  obtain ⟨g, μ, P, xs, w, g', r, hp, e, p⟩ := h
  obtain ⟨z, ez, hz⟩ := biW_of e
  rcases xs with _ | ⟨x, _ | ⟨y, _ | ⟨u, t⟩⟩⟩
  · cases ez
  · cases x <;> cases ez
  · obtain ⟨v, u, rfl, hv, hu⟩ := pk2 hp
    cases x <;> cases y <;> first
      | (cases ez; done)
      | skip
    case int.int i j =>
      cases ez
      cases hv.int
      cases hu.int
      exact ⟨i, j, rfl, bi_flat p r hz (fun _ z => nomatch z) (.int _)⟩
  · cases x <;> cases y <;> cases ez
/-- set(e), e a tuple of texts -/
def rSetQ (X : Cx) : List V → Hp → VK → Prop := fun vs H Q => ∃ (g g' : Gs) (μ : List (Option Addr)) (P : Pv) (Q' : VK) (xs : List D) (w : W), Rel X.K H μ P g ∧ Paired (Pk X.K H (Ms μ P)) vs xs ∧ biW .sortedSet g xs = .ok w g' ∧ Post X.K H μ P Q' w g' ∧
  ∀ q H2, rSortedSetS X [.ref q] H2 Q' → Q (.ref q) H2
theorem cb_setQ (hc : X.calm = true) : CallR X (.type "set") (rSetQ X) := by
  refine callR_imp (cr_setS hc) fun vs H Q h => ?_
  obtain ⟨g, g', μ, P, Q', xs, w, r, hp, e, p, k⟩ := h
  obtain ⟨z, ez, hz⟩ := biW_of e
  rcases xs with _ | ⟨x, _ | ⟨y, t⟩⟩
  · cases ez
  · obtain ⟨v, rfl, hv⟩ := pk1 hp
    cases x <;> first
      | (cases ez; done)
      | skip
    case tuple ds =>
      obtain ⟨bs, eb, e2⟩ := Option.bind_eq_some_iff.mp (show (strsD ds).bind _ = some z from ez)
      obtain ⟨hc, rfl⟩ := iteS e2
      have hlen : bs.length < 64 := decT hc
      obtain ⟨a, us, rfl, hq, f⟩ := hv.tuple
      obtain ⟨rfl, ok⟩ := strs_fz f eb
      refine ⟨a, bs, rfl, hq, by unfold scanBound; omega, fun q hn => k q _ ⟨q, bs, rfl, upd_same, by rw [sizeLine_eq]; omega, fun ys pp nd m hs hpn => ?_⟩⟩
      cases sortedSet_one nd m hs
      have k2 := keeps_upd (o := SetS X.prog X.w q bs) hn
      have r2 : Rel X.K (upd H q (SetS X.prog X.w q bs)) μ P g := r.same k2
      have p2 : Post X.K (upd H q (SetS X.prog X.w q bs)) μ P Q' w g' := Post.up (Ext.same k2) p
      refine bi_list p2 r2 hz (strs_back _ fun x hx => ok x ?_) pp hpn
      exact (dedup_mem bs x).mp ((sortS_perm _).mem_iff.mp hx)
  · cases x <;> cases ez
end RF
end
section
set_option Elab.async false
set_option linter.all false
set_option maxRecDepth 100000
/-! Readings: calls of built-ins, isinstance, a list and the script. -/
namespace RF
open PySem PySem.Spec PyProof.Rows L2
variable {X : Cx} {Wx : WX} {T : Tab} {k : Nat} {sc : Scope} {N : List Str}

theorem stars_plain {pos : Pos} {env : PySem.Env} {e : Expr} {es : List Expr} (h : (e :: es).all notStar = true) : starEach (e :: es) env = (false, eval e env) :: starEach es env ∧ (backTo pos (starEach es env)).any (·.1) = false := by
  have hs : notStar e = true ∧ es.all notStar = true := by simpa using h
  exact ⟨star_cons hs.1, plain_args hs.2⟩
def biOk : Bi → Bool
  | .sortedSet => false
  | .listZip => false
  | _ => true
theorem boot_set : bootBuiltins "set" = some (.type "set") := by decide +kernel
theorem se_bi {b : Bi} (c : Cok T X k sc N Wx) (hb : biOk b = true) {p pos : Pos} {e : Expr} {es : List Expr} {fs : Env → Gs → Out (List W)} {F : Env → Gs → Out W} (hg : sc.names.lookup (biName b) = some .globalImplicit) (hfr : biName b ∈ T.free)
    (hst : (e :: es).all notStar = true) (ha : PA X (e :: es) (tA X.K Wx fs)) (hF : F = fun env g => (fs env g).bind fun ws g1 => (Out.ofO g1 (peeks g1 ws)).bind fun xs _ => biW b g1 xs) : PE X (.Call (.Name (biName b) p) (e :: es) [] pos) (tE X.K Wx F) := by
  subst hF
  have G := c.gl hg
  have M := c.g.free _ hfr
  obtain ⟨s1, s2⟩ := stars_plain (pos := pos) (env := X.env) hst
  have cm := c.calm
  cases b with
  | str => exact (pe_callTy cb_str G M (by decide +kernel) ha (he := s1) (hpl := s2)).imp fun σ H Q q => bi_core q
  | len => exact (pe_callB cb_len G M (by decide +kernel) ha (he := s1) (hpl := s2)).imp fun σ H Q q => bi_core q
  | int => exact (pe_callTy cb_int G M (by decide +kernel) ha (he := s1) (hpl := s2)).imp fun σ H Q q => bi_core q
  | all => exact (pe_callB (cb_all cm) G M (by decide +kernel) ha (he := s1) (hpl := s2)).imp fun σ H Q q => bi_core q
  | any => exact (pe_callB (cb_any cm) G M (by decide +kernel) ha (he := s1) (hpl := s2)).imp fun σ H Q q => bi_core q
  | tuple => exact (pe_callTy cb_tuple G M (by decide +kernel) ha (he := s1) (hpl := s2)).imp fun σ H Q q => bi_core q
  | list => exact (pe_callTy cb_list G M (by decide +kernel) ha (he := s1) (hpl := s2)).imp fun σ H Q q => bi_core q
  | sorted => exact (pe_callB cb_sorted G M (by decide +kernel) ha (he := s1) (hpl := s2)).imp fun σ H Q q => bi_core q
  | min2 => exact (pe_callB (cb_min2 cm) G M (by decide +kernel) ha (he := s1) (hpl := s2)).imp fun σ H Q q => bi_core q
  | max2 => exact (pe_callB (cb_max2 cm) G M (by decide +kernel) ha (he := s1) (hpl := s2)).imp fun σ H Q q => bi_core q
  | sortedSet => cases hb
  | listZip => cases hb
theorem se_sset (c : Cok T X k sc N Wx) {p p2 pos pos2 : Pos} {e : Expr} {fs : Env → Gs → Out (List W)} {F : Env → Gs → Out W} (hg : sc.names.lookup ("sorted" : Str) = some .globalImplicit) (hfr : ("sorted" : Str) ∈ T.free)
    (hg2 : sc.names.lookup ("set" : Str) = some .globalImplicit) (hfr2 : ("set" : Str) ∈ T.free) (hst : notStar e = true) (ha : PA X [e] (tA X.K Wx fs))
    (hF : F = fun env g => (fs env g).bind fun ws g1 => (Out.ofO g1 (peeks g1 ws)).bind fun xs _ => biW .sortedSet g1 xs) : PE X (.Call (.Name "sorted" p) [.Call (.Name "set" p2) [e] [] pos2] [] pos) (tE X.K Wx F) := by
  subst hF
  obtain ⟨s1, s2⟩ := stars_plain (pos := pos2) (env := X.env) (show ([e] : List Expr).all notStar = true by simpa using hst)
  have inner := pe_callTy (p := p2) (pos := pos2) (cb_setQ c.calm) (c.gl hg2) (c.g.free _ hfr2) boot_set ha (he := s1) (hpl := s2)
  refine (pe_callB (cr_sortedSetS c.calm) (c.gl hg) (c.g.free _ hfr) (by decide +kernel) (pa_cons inner pa_nil)).imp fun σ H Q q => ?_
  obtain ⟨env, g, μ, P, r, er, q⟩ := q
  refine stepA (p := fun H μ => Post X.K H μ P Q) r er (fun e h => Post.up e h) q fun ws g1 vs H1 μ1 r1 e1 er1 h1 q => ?_
  obtain ⟨xs, ex, q⟩ := q.ofO
  cases e : biW .sortedSet g1 xs with
  | ok w g' =>
    rw [e] at q
    exact ⟨g1, g', μ1, P, Q, xs, w, r1, peeks_of r1 h1 ex, e, q, fun q H2 h => h⟩
  | exc x g' =>
    exfalso
    unfold biW at e
    split at e <;> (try split at e) <;> cases e
  | no => rw [e] at q; exact q.elim

/-! ### isinstance -/
def tyStr : Ty → Str
  | .int => "int"
  | .bool => "bool"
  | .str => "str"
  | .tuple => "tuple"
  | .list => "list"
def tyName : Ty → String
  | .int => "int"
  | .bool => "bool"
  | .str => "str"
  | .tuple => "tuple"
  | .list => "list"
def dName : D → String
  | .none => "NoneType"
  | .bool _ => "bool"
  | .int _ => "int"
  | .str _ => "str"
  | .list _ => "list"
  | .tuple _ => "tuple"
  | _ => ""
theorem fz_ty {K : PySem.W.Frag} {H : Hp} {M : Addr → Prop} {v : V} {d : D} (h : Fz K H M v d) : TyX K H v (.type (dName d)) := by
  cases h with
  | non => exact .base .non
  | bl b => exact .base (.bl b)
  | int i => exact .base (.int i)
  | str x _ _ => exact .base (.str x)
  | lst e _ _ => exact .base (.lst e)
  | tup e _ _ => exact .base (.tup e)
  | tupK e _ =>
    obtain ⟨o, its, n, h1, h2, _⟩ := e
    exact .kTuple h1 h2
theorem pk_ty {K : PySem.W.Frag} {H : Hp} {M : Addr → Prop} {v : V} {d : D} (h : Pk K H M v d) : TyX K H v (.type (dName d)) := by
  rcases h with h | ⟨a, vs, ds, rfl, e, _, rfl⟩
  · exact fz_ty h
  · exact .base (.lst e)
def kitT (a b : String) : Option Bool := if (Value.type a == Value.type b) = true then some true else if PySem.W.kitMeta b = true then (PySem.fastBuiltinMro a).map (·.contains (.type b)) else none
theorem kit_tt (K : PySem.W.Frag) (a b : String) : PySem.W.kitOne K (.type a) (.type b) = kitT a b := rfl
theorem kitT_tab (t : Ty) : kitT "NoneType" (tyName t) = some false ∧ kitT "bool" (tyName t) = some (t == .int || t == .bool) ∧ kitT "int" (tyName t) = some (t == .int) ∧ kitT "str" (tyName t) = some (t == .str) ∧ kitT "list" (tyName t) = some (t == .list) ∧ kitT "tuple" (tyName t) = some (t == .tuple) := by
  cases t <;> decide +kernel
theorem fz_isTy {K : PySem.W.Frag} {H : Hp} {M : Addr → Prop} {v : V} {d : D} (h : Fz K H M v d) (t : Ty) : PySem.W.kitOne K (.type (dName d)) (.type (tyName t)) = some (isTy t d) := by
  rw [kit_tt]
  obtain ⟨h1, h2, h3, h4, h5, h6⟩ := kitT_tab t
  cases h with
  | non => exact h1.trans (by cases t <;> rfl)
  | bl b => exact h2.trans (by cases t <;> rfl)
  | int i => exact h3.trans (by cases t <;> rfl)
  | str x _ _ => exact h4.trans (by cases t <;> rfl)
  | lst _ _ _ => exact h5.trans (by cases t <;> rfl)
  | tup _ _ _ => exact h6.trans (by cases t <;> rfl)
  | tupK _ _ => exact h6.trans (by cases t <;> rfl)
theorem pk_isTy {K : PySem.W.Frag} {H : Hp} {M : Addr → Prop} {v : V} {d : D} (h : Pk K H M v d) (t : Ty) : PySem.W.kitOne K (.type (dName d)) (.type (tyName t)) = some (isTy t d) := by
  rcases h with h | ⟨a, vs, ds, rfl, e, _, rfl⟩
  · exact fz_isTy h t
  · rw [kit_tt]
    exact (kitT_tab t).2.2.2.2.1.trans (by cases t <;> rfl)
theorem boot_ty (t : Ty) : bootBuiltins (tyStr t) = some (.type (tyName t)) := by cases t <;> decide +kernel
theorem isi_core {t : Ty} {a : Expr} {fa : Env → Gs → Out W} {α : Type} {mk : Bool → Gs → Out α} {p : Hp → List (Option Addr) → Pv → α → Gs → Prop} {σ : L2.St} {H : Hp} {Q : VK} {env : Env} {g : Gs} {μ : List (Option Addr)} {P : Pv}
    (up : ∀ {H H1 μ μ1 P a g1}, Ext H μ H1 μ1 → p H μ P a g1 → p H1 μ1 P a g1)
    (r : Rel X.K H μ P g) (er : ER X.K H μ P σ env) (q : Gd ((fa env g).bind fun x g1 => (Out.ofO g1 (peek g1 x)).bind fun x' _ => mk (isTy t x') g1) (p H μ P) (Rx X.K Wx σ H μ P))
    (fin : ∀ b g2 H2 μ2, Rel X.K H2 μ2 P g2 → Gd (mk b g2) (p H2 μ2 P) (Rx X.K Wx σ H2 μ2 P) → Q (.bl b) H2) : tCB (rIsi X.K) (tCons (tE X.K Wx fa) (tCons (tC (.ty (tyName t))) tNil)) σ H Q := by
  refine step1 (p := fun H μ => p H μ P) r er (fun e h => up e h) q fun w1 g1 v1 H1 μ1 r1 e1 er1 h1 q => ?_
  obtain ⟨x', ex, q⟩ := Gd.ofO q
  have pk := r1.peek h1 ex
  exact ⟨v1, .ty (tyName t), _, _, _, rfl, .ty _, pk_ty pk, pk_isTy pk t, fin _ g1 H1 μ1 r1 q⟩
theorem pe_ty (c : Cok T X k sc N Wx) (t : Ty) {p : Pos} (hg : sc.names.lookup (tyStr t) = some .globalImplicit) (hfr : tyStr t ∈ T.free) : PE X (.Name (tyStr t) p) (tC (.ty (tyName t))) := by
  have G := c.gl hg
  have M := c.g.free _ hfr
  cases t with
  | int => exact pe_bltn G M (boot_ty .int) (by rfl)
  | bool => exact pe_bltn G M (boot_ty .bool) (by rfl)
  | str => exact pe_bltn G M (boot_ty .str) (by rfl)
  | tuple => exact pe_bltn G M (boot_ty .tuple) (by rfl)
  | list => exact pe_bltn G M (boot_ty .list) (by rfl)
theorem pe_isi0 (c : Cok T X k sc N Wx) {t : Ty} {a : Expr} {p p2 pos : Pos} {fa : Env → Gs → Out W} (hg : sc.names.lookup ("isinstance" : Str) = some .globalImplicit) (hfr : ("isinstance" : Str) ∈ T.free)
    (hg2 : sc.names.lookup (tyStr t) = some .globalImplicit) (hfr2 : tyStr t ∈ T.free) (hst : notStar a = true) (ha : PE X a (tE X.K Wx fa)) :
    PE X (.Call (.Name "isinstance" p) [a, .Name (tyStr t) p2] [] pos) (tCB (rIsi X.K) (tCons (tE X.K Wx fa) (tCons (tC (.ty (tyName t))) tNil))) := by
  obtain ⟨s1, s2⟩ := stars_plain (pos := pos) (env := X.env) (e := a) (es := [.Name (tyStr t) p2]) (by rw [List.all_cons, hst]; rfl)
  exact pe_callB call_isi (c.gl hg) (c.g.free _ hfr) (by decide +kernel) (pa_cons ha (pa_cons (pe_ty c t hg2 hfr2) pa_nil) s1) (he := s1) (hpl := s2)
theorem se_isi (c : Cok T X k sc N Wx) {t : Ty} {a : Expr} {p p2 pos : Pos} {fa F : Env → Gs → Out W} (hg : sc.names.lookup ("isinstance" : Str) = some .globalImplicit) (hfr : ("isinstance" : Str) ∈ T.free)
    (hg2 : sc.names.lookup (tyStr t) = some .globalImplicit) (hfr2 : tyStr t ∈ T.free) (hst : notStar a = true) (ha : PE X a (tE X.K Wx fa))
    (hF : F = fun env g => (fa env g).bind fun x g1 => (Out.ofO g1 (peek g1 x)).bind fun x' _ => .ok (.d (.bool ([t].any fun t => isTy t x'))) g1) :
    PE X (.Call (.Name "isinstance" p) [a, .Name (tyStr t) p2] [] pos) (tE X.K Wx F) := by
  subst hF
  refine (pe_isi0 c hg hfr hg2 hfr2 hst ha).imp fun σ H Q ⟨env, g, μ, P, r, er, q⟩ => ?_
  simp only [List.any_cons, List.any_nil, Bool.or_false] at q
  exact isi_core (a := a) (p := fun H μ P => Post X.K H μ P Q) (α := W) (mk := fun b g => .ok (.d (.bool b)) g) (fun e h => Post.up e h) r er q fun b g2 H2 μ2 r2 q => (show Post X.K H2 μ2 P Q (.d (.bool b)) g2 from q).here r2 (Fz.bl _)

/-! ### a list and the script -/
def rCatL (K : PySem.W.Frag) : R2 := fun x y H Q => ∃ l b xs zs, x = .ref l ∧ y = .ref b ∧ SqL K H l xs ∧ SqL K H b zs ∧ xs.length + zs.length ≤ sizeLine ∧ ∀ p, H p = none → Q (.ref p) (upd H p (.lst (xs ++ zs)))
theorem op_catL : OpR X (binaryOp .Add) (rCatL X.K) := by
  intro pins s σ H x y v u Q I rx ry h
  obtain ⟨l, b, xs, zs, rfl, rfl, hH, hB, hz, q⟩ := h
  cases rx
  cases ry
  obtain ⟨its, r, pl, _⟩ := I.list hH
  obtain ⟨its2, r2, pl2, _⟩ := I.list hB
  obtain ⟨⟨cls, dd, data, sl⟩, ho, hc, n, hd⟩ := pl.isList
  obtain ⟨⟨cls2, dd2, data2, sl2⟩, ho2, hc2, n2, hd2⟩ := pl2.isList
  simp only at hc hd hc2 hd2
  subst hc hd hc2 hd2
  have h1 := r.length
  have h2 := r2.length
  have e : its.toArray ++ its2.toArray = (its ++ its2).toArray := by simp
  refine concat_meets ⟨_, ho, rfl⟩ ⟨_, ho2, rfl⟩ noFill_list_add seq_list_add PySem.F.slot_list_add PySem.F.entry_list_add (PySem.F.args_list_add_2 _ _) (list_addW l b its.toArray its2.toArray n n2 dd dd2 sl sl2 (by simp only [List.size_toArray]; omega)) ⟨ho, ho2, ?_⟩
  rw [e]
  exact ⟨.ref _, _, I.lnew (t' := s.toks) (r.append r2) (by rw [List.length_append]; omega), rfl, q _ I.fresh⟩
theorem ints_all {K : PySem.W.Frag} {H : Hp} {M : Addr → Prop} (ns : List Int) : FzAll K H M (ns.map V.int) (ns.map PyData.int) := ints_back ns
theorem se_adds {i : Nat} {a : Expr} {x : Str} {p pos : Pos} {fa F : Env → Gs → Out W} (ha : PE X a (tE X.K Wx fa)) (hx : PE X (.Name x p) (tVar i))
    (hF : F = fun env g => (fa env g).bind fun x g1 => match x, env[i]? with
    | .d (.list xs), some (some (.scr ns)) => if decide (xs.length + ns.length ≤ sizeLine) = true then newL g1 (xs ++ ns.map .int) else .no
    | _, _ => .no) : PE X (.BinOp a .Add (.Name x p) pos) (tE X.K Wx F) := by
  subst hF
  refine (pe_op op_catL ha hx).imp fun σ H Q ⟨env, g, μ, P, r, er, q⟩ => ?_
  refine step1 (p := fun H μ => Post X.K H μ P Q) r er (fun e h => Post.up e h) q fun w1 g1 v1 H1 μ1 r1 e1 er1 h1 q => ?_
  split at q
  · rename_i xs ns e
    obtain ⟨v, hv, hw⟩ := er1.at_ i _ e
    obtain ⟨b, rfl, hb⟩ := ScrR.sq hw
    obtain ⟨hc, q⟩ := guard_of q
    obtain ⟨l, vs, rfl, hl, f⟩ := (show Pk X.K H1 (Ms μ1 P) v1 (.list xs) from .inl h1).list
    refine ⟨_, hv, ?_⟩
    have q2 : Post X.K H1 μ1 P Q _ _ := q
    refine ⟨l, b, vs, ns.map V.int, rfl, rfl, SqL.of hl, hb, by rw [f.length, List.length_map]; exact decT hc, Post.lst q2 rfl r1 (f.append (ints_all ns))⟩
  · exact q.elim
end RF
end
section
set_option Elab.async false
set_option linter.all false
set_option maxRecDepth 100000
/-! Readings: what is walked, targets. -/
namespace RF
open PySem PySem.Spec PyProof.Rows L2
variable {X : Cx} {Wx : WX} {T : Tab} {k : Nat} {sc : Scope} {N : List Str}

/-! ### what an iterator gives -/
def Later (H : Hp) (M : Addr → Prop) (H2 : Hp) (M2 : Addr → Prop) : Prop := (∀ a o, H a = some o → ¬ M a → NT o → H2 a = some o) ∧ (∀ a, M2 a → M a ∨ ¬ Oc H a) ∧ ∀ a, H2 a = none → ¬ M2 a
def Gives (K : PySem.W.Frag) (J : It) (H : Hp) (M : Addr → Prop) (xs : List D) : Prop := ∀ H2 M2, Later H M H2 M2 →
  (∀ i, i < xs.length → J.go i H2) ∧ J.stop xs.length H2 ∧ ∀ i v H3, i < xs.length → J.yld i H2 v H3 → (∀ a o, H2 a = some o → H3 a = some o) ∧ ∃ d, xs[i]? = some d ∧ Fz K H3 M2 v d
section
variable {K : PySem.W.Frag} {H : Hp} {M : Addr → Prop} {xs ys : List D} {v u : V} {a b : Addr}
theorem gives_tup (f : Fz K H M (.ref a) (.tuple xs)) : Gives K (Itt K a) H M xs := by
  intro H2 M2 ⟨l1, l2, l3⟩
  obtain ⟨a', vs, e, hq, fa⟩ := (show Pk K H2 M2 (.ref a) (.tuple xs) from .inl (f.ext l1 l2)).tuple
  cases e
  have hl := fa.length
  refine ⟨fun i hi => ⟨vs, vs[i]'(by omega), hq, by simp [hl, hi]⟩, ⟨vs, hq, by omega⟩, fun i v H3 hi y => ?_⟩
  obtain ⟨rfl, y⟩ := y
  obtain ⟨d, h1, h2⟩ := fa.get' (y vs hq)
  exact ⟨fun _ _ h => h, d, h1, h2⟩
theorem gives_list (f : Fz K H M (.ref a) (.list xs)) : Gives K (Itl K a) H M xs := by
  intro H2 M2 ⟨l1, l2, l3⟩
  obtain ⟨a', vs, e, hq, fa⟩ := (show Pk K H2 M2 (.ref a) (.list xs) from .inl (f.ext l1 l2)).list
  cases e
  have hl := fa.length
  have hq := SqL.of (K := K) hq
  refine ⟨fun i hi => ⟨vs, vs[i]'(by omega), hq, by simp [hl, hi]⟩, ⟨vs, hq, by omega⟩, fun i v H3 hi y => ?_⟩
  obtain ⟨rfl, y⟩ := y
  obtain ⟨d, h1, h2⟩ := fa.get' (y vs hq)
  exact ⟨fun _ _ h => h, d, h1, h2⟩
theorem gives_rng (lo : Int) (n : Nat) : Gives K (Itr lo n) H M ((List.range n).map fun i => .int (lo + (i : Nat))) := by
  intro H2 M2 _
  simp only [List.length_map, List.length_range]
  refine ⟨fun i hi => hi, Nat.le_refl _, fun i v H3 hi y => ?_⟩
  obtain ⟨rfl, rfl⟩ := y
  exact ⟨fun _ _ h => h, .int (lo + (i : Nat)), by simp [hi], .int _⟩
theorem pair_fz {H2 : Hp} {M2 : Addr → Prop} {T : Addr} {x y : V} {d e : D} (l3 : ∀ a, H2 a = none → ¬ M2 a) (hT : H2 T = none) (fx : Fz K H2 M2 x d) (fy : Fz K H2 M2 y e) : (∀ a o, H2 a = some o → (upd H2 T (.tup [x, y])) a = some o) ∧ Fz K (upd H2 T (.tup [x, y])) M2 (.ref T) (.tuple [d, e]) := by
  have k := keeps_upd (o := .tup [x, y]) hT
  exact ⟨k, .tup upd_same (l3 T hT) (.cons (fx.ext (fun a o h _ _ => k a o h) fun a m => .inl m) (.cons (fy.ext (fun a o h _ _ => k a o h) fun a m => .inl m) .nil))⟩
theorem zip_get {α β : Type} {xs : List α} {ys : List β} {i : Nat} {x : α} {y : β} (h1 : xs[i]? = some x) (h2 : ys[i]? = some y) : (xs.zip ys)[i]? = some (x, y) := by
  rw [List.getElem?_zip_eq_some]; exact ⟨h1, h2⟩
theorem gives_zipL (f : Fz K H M (.ref a) (.list xs)) (f2 : Fz K H M (.ref b) (.list ys)) : Gives K (Itz K a b) H M ((xs.zip ys).map fun p => .tuple [p.1, p.2]) := by
  intro H2 M2 ⟨l1, l2, l3⟩
  obtain ⟨_, vs, e, hq, fa⟩ := (show Pk K H2 M2 (.ref a) (.list xs) from .inl (f.ext l1 l2)).list
  cases e
  obtain ⟨_, us, e, hq2, fb⟩ := (show Pk K H2 M2 (.ref b) (.list ys) from .inl (f2.ext l1 l2)).list
  cases e
  have hl := fa.length
  have hl2 := fb.length
  have hq := SqL.of (K := K) hq
  have hq2 := SqL.of (K := K) hq2
  simp only [List.length_map, List.length_zip]
  refine ⟨fun i hi => ⟨vs, us, vs[i]'(by omega), us[i]'(by omega), hq, hq2, by simp, by simp⟩, ⟨vs, us, hq, hq2, by omega⟩, fun i v H3 hi y => ?_⟩
  obtain ⟨T, x, y, rfl, hT, rfl, h1, h2⟩ := y
  obtain ⟨d, h3, h4⟩ := fa.get' (h1 vs hq)
  obtain ⟨e, h5, h6⟩ := fb.get' (h2 us hq2)
  obtain ⟨q1, q2⟩ := pair_fz l3 hT h4 h6
  exact ⟨q1, _, by rw [List.getElem?_map, zip_get h3 h5]; rfl, q2⟩
theorem gives_zipT (f : Fz K H M (.ref a) (.tuple xs)) (f2 : Fz K H M (.ref b) (.tuple ys)) : Gives K (RZ.ItzT K a b) H M ((xs.zip ys).map fun p => .tuple [p.1, p.2]) := by
  intro H2 M2 ⟨l1, l2, l3⟩
  obtain ⟨_, vs, e, hq, fa⟩ := (show Pk K H2 M2 (.ref a) (.tuple xs) from .inl (f.ext l1 l2)).tuple
  cases e
  obtain ⟨_, us, e, hq2, fb⟩ := (show Pk K H2 M2 (.ref b) (.tuple ys) from .inl (f2.ext l1 l2)).tuple
  cases e
  have hl := fa.length
  have hl2 := fb.length
  simp only [List.length_map, List.length_zip]
  refine ⟨fun i hi => ⟨vs, us, vs[i]'(by omega), us[i]'(by omega), hq, hq2, by simp, by simp⟩, ⟨vs, us, hq, hq2, by omega⟩, fun i v H3 hi y => ?_⟩
  obtain ⟨T, x, y, rfl, hT, rfl, h1, h2⟩ := y
  obtain ⟨d, h3, h4⟩ := fa.get' (h1 vs hq)
  obtain ⟨e, h5, h6⟩ := fb.get' (h2 us hq2)
  obtain ⟨q1, q2⟩ := pair_fz l3 hT h4 h6
  exact ⟨q1, _, by rw [List.getElem?_map, zip_get h3 h5]; rfl, q2⟩
theorem gives_enum (f : Fz K H M (.ref a) (.list xs)) : Gives K (Ite K a) H M (xs.mapIdx fun i y => .tuple [.int (i : Nat), y]) := by
  intro H2 M2 ⟨l1, l2, l3⟩
  obtain ⟨_, vs, e, hq, fa⟩ := (show Pk K H2 M2 (.ref a) (.list xs) from .inl (f.ext l1 l2)).list
  cases e
  have hl := fa.length
  have hq := SqL.of (K := K) hq
  simp only [List.length_mapIdx]
  refine ⟨fun i hi => ⟨vs, vs[i]'(by omega), hq, by simp⟩, ⟨vs, hq, by omega⟩, fun i v H3 hi y => ?_⟩
  obtain ⟨T, x, rfl, hT, rfl, h1⟩ := y
  obtain ⟨d, h3, h4⟩ := fa.get' (h1 vs hq)
  obtain ⟨q1, q2⟩ := pair_fz l3 hT (.int (i : Nat)) h4
  exact ⟨q1, _, by rw [List.getElem?_mapIdx, h3]; rfl, q2⟩
end
/-! ### readings -/
def PostI (K : PySem.W.Frag) (H : Hp) (μ : List (Option Addr)) (P : Pv) (R : It → Hp → Prop) (xs : List D) (g : Gs) : Prop :=
  ∀ J H' μ', Rel K H' μ' P g → Ext H μ H' μ' → Gives K J H' (Ms μ' P) xs → R J H'
def tI (K : PySem.W.Frag) (Wx : WX) (f : Env → Gs → Out (List D)) : TI := fun σ H R => ∃ env g μ P, Rel K H μ P g ∧ ER K H μ P σ env ∧ Gd (f env g) (PostI K H μ P R) (Rx K Wx σ H μ P)
theorem PostI.up {K : PySem.W.Frag} {H H1 : Hp} {μ μ1 : List (Option Addr)} {P : Pv} {g : Gs} (e : Ext H μ H1 μ1) {R : It → Hp → Prop} {xs : List D} (h : PostI K H μ P R xs g) : PostI K H1 μ1 P R xs g := fun J H' μ' r e' q => h J H' μ' r (e.trans e') q
/-- a list or a tuple, walked -/
def iSeq (K : PySem.W.Frag) (tl : TE) : TI := fun σ H R => tl σ H fun x H1 => ∃ a, x = .ref a ∧ (((∃ xs, SqL K H1 a xs) ∧ R (Itl K a) H1) ∨ ((∃ xs, SqT K H1 a xs) ∧ R (Itt K a) H1))
theorem pi_seq {tg l : Expr} {tl : TE} (hl : PE X l tl) : PI X tg l (iSeq X.K tl) := by
  refine ⟨fun pins s σ H R I h => ?_⟩
  refine thn (hl.run pins s σ H _ I h) fun v s1 ⟨x, H1, I1, r1, q1⟩ => ?_
  obtain ⟨a, rfl, q1⟩ := q1
  cases r1
  have fp : ∀ b ∈ [s1.heap.objs.size], FpOk X pins H1 b := fun b hb => by
    have e : b = s1.heap.objs.size := by simpa using hb
    subst e
    exact I1.fpOk (Nat.le_refl _) (I1.hok.fresh (Nat.le_refl _))
  rcases q1 with ⟨⟨xs, hq⟩, q⟩ | ⟨⟨xs, hq⟩, q⟩
  · obtain ⟨its, rv, p, hz⟩ := I1.list hq
    exact wpAny_pyIter_list p.isList ⟨s1.heap.objs.size, [s1.heap.objs.size], _, _, H1, rfl, I1.kept (t' := s1.toks) fun b o e => Heap.get?_push_of_some _ e, turn_list a _, ⟨_, Heap.get?_push_size _ rfl, rfl, rfl⟩, fp, q⟩
  · obtain ⟨its, rv, p, hz⟩ := I1.tuple hq
    exact wpAny_pyIter_tuple (show s1.heap.IsTuple a its.toArray from p) ⟨s1.heap.objs.size, [s1.heap.objs.size], _, _, H1, rfl, I1.kept (t' := s1.toks) fun b o e => Heap.get?_push_of_some _ e, turn_tuple a _, ⟨_, Heap.get?_push_size _ rfl, rfl, rfl⟩, fp, q⟩
theorem si_seq {tg e : Expr} {f : Env → Gs → Out W} {F : Env → Gs → Out (List D)} (h : PE X e (tE X.K Wx f)) (hF : F = fun env g => (f env g).bind fun w g1 => match w with
    | .d x => Out.ofO g1 (seqD x)
    | _ => .no) : PI X tg e (tI X.K Wx F) := by
  subst hF
  refine (pi_seq h).imp fun σ H R ⟨env, g, μ, P, r, er, q⟩ => ?_
  refine ⟨env, g, μ, P, r, er, q.bind.mono (fun w g1 q v H1 μ1 r1 e1 h1 => ?_) fun _ _ z => z⟩
  split at q
  · rename_i x
    replace h1 : Fz X.K H1 (Ms μ1 P) v x := h1
    cases x <;> first
      | exact q.elim
      | skip
    case list xs =>
      have q : PostI X.K H μ P R xs g1 := q
      obtain ⟨a, vs, rfl, hq, fa⟩ := (show Pk X.K H1 (Ms μ1 P) v (.list xs) from .inl h1).list
      exact ⟨a, rfl, .inl ⟨⟨vs, SqL.of hq⟩, q _ H1 μ1 r1 e1 (gives_list h1)⟩⟩
    case tuple xs =>
      have q : PostI X.K H μ P R xs g1 := q
      obtain ⟨a, vs, rfl, hq, fa⟩ := (show Pk X.K H1 (Ms μ1 P) v (.tuple xs) from .inl h1).tuple
      exact ⟨a, rfl, .inr ⟨⟨vs, hq⟩, q _ H1 μ1 r1 e1 (gives_tup h1)⟩⟩
  · exact q.elim
theorem si_rng1 (c : Cok T X k sc N Wx) {tg a : Expr} {p pos : Pos} {fa : Env → Gs → Out W} {F : Env → Gs → Out (List D)} (hg : sc.names.lookup ("range" : Str) = some .globalImplicit) (hfr : ("range" : Str) ∈ T.free) (hst : notStar a = true) (ha : PE X a (tE X.K Wx fa))
    (hF : F = fun env g => (fa env g).bind fun x g1 => match x with
    | .d (.int n) => if decide (n < 4611686018427387904) && decide (-4611686018427387904 ≤ n) = true then .ok ((List.range n.toNat).map fun i => .int (0 + (i : Nat))) g1 else .no
    | _ => .no) : PI X tg (.Call (.Name "range" p) [a] [] pos) (tI X.K Wx F) := by
  subst hF
  refine (pi_range1 (c.gl hg) (c.g.free _ hfr) (pa_cons ha pa_nil (star_cons hst)) (star_cons hst)).imp fun σ H R ⟨env, g, μ, P, r, er, q⟩ => ?_
  refine ⟨env, g, μ, P, r, er, q.bind.mono (fun w g1 q v H1 μ1 r1 e1 h1 => ?_) fun _ _ z => z⟩
  split at q
  · rename_i n
    cases (show Fz X.K H1 (Ms μ1 P) v (.int n) from h1)
    obtain ⟨hc, q⟩ := guard_of q
    simp only [Bool.and_eq_true, decide_eq_true_eq] at hc
    have q : PostI X.K H μ P R _ g1 := q
    exact ⟨n, rfl, by omega, by omega, q _ H1 μ1 r1 e1 (gives_rng 0 n.toNat)⟩
  · exact q.elim
theorem si_rng2 (c : Cok T X k sc N Wx) {tg a b : Expr} {p pos : Pos} {fa fb : Env → Gs → Out W} {F : Env → Gs → Out (List D)} (hg : sc.names.lookup ("range" : Str) = some .globalImplicit) (hfr : ("range" : Str) ∈ T.free) (hst : notStar a = true) (hst2 : notStar b = true) (ha : PE X a (tE X.K Wx fa)) (hb : PE X b (tE X.K Wx fb))
    (hF : F = fun env g => (fa env g).bind fun x g1 => (fb env g1).bind fun y g2 => match x, y with
    | .d (.int m), .d (.int n) => if decide (n < 4611686018427387904) && decide (-4611686018427387904 ≤ n) && decide (m < 4611686018427387904) && decide (-4611686018427387904 ≤ m) = true then .ok ((List.range (n - m).toNat).map fun i => .int (m + (i : Nat))) g2 else .no
    | _, _ => .no) : PI X tg (.Call (.Name "range" p) [a, b] [] pos) (tI X.K Wx F) := by
  subst hF
  refine (pi_range2 (c.gl hg) (c.g.free _ hfr) (pa_cons ha (pa_cons hb pa_nil (star_cons hst2)) (star_cons hst)) (by rw [star_cons hst, star_cons hst2]; rfl) (star_cons hst2)).imp fun σ H R ⟨env, g, μ, P, r, er, q⟩ => ?_
  refine step1 (p := fun H μ => PostI X.K H μ P R) r er (fun e h => PostI.up e h) q fun w1 g1 v1 H1 μ1 r1 e1 er1 h1 q => ?_
  refine step1 (p := fun H μ => PostI X.K H μ P R) r1 er1 (fun e h => PostI.up e h) q fun w2 g2 v2 H2 μ2 r2 e2 er2 h2 q2 => ?_
  clear q
  have q := q2
  clear q2
  split at q
  · rename_i m n
    cases (show Fz X.K H1 (Ms μ1 P) v1 (.int m) from h1)
    cases (show Fz X.K H2 (Ms μ2 P) v2 (.int n) from h2)
    obtain ⟨hc, q⟩ := guard_of q
    simp only [Bool.and_eq_true, decide_eq_true_eq] at hc
    have q : PostI X.K H2 μ2 P R _ g2 := q
    exact ⟨m, n, rfl, by omega, q _ H2 μ2 r2 .refl (gives_rng m (n - m).toNat)⟩
  · exact q.elim
theorem si_zip (c : Cok T X k sc N Wx) {elts : List Expr} {kk : Nat} {tpos : Pos} {a b : Expr} {p pos : Pos} {fa fb : Env → Gs → Out W} {F : Env → Gs → Out (List D)} (hg : sc.names.lookup ("zip" : Str) = some .globalImplicit) (hfr : ("zip" : Str) ∈ T.free) (hst : notStar a = true) (hst2 : notStar b = true) (ha : PE X a (tE X.K Wx fa)) (hb : PE X b (tE X.K Wx fb))
    (hF : F = fun env g => (fa env g).bind fun x g1 => (fb env g1).bind fun y g2 => match x, y with
    | .d (.list xs), .d (.list ys) => .ok ((xs.zip ys).map fun p => .tuple [p.1, p.2]) g2
    | .d (.tuple xs), .d (.tuple ys) => .ok ((xs.zip ys).map fun p => .tuple [p.1, p.2]) g2
    | _, _ => .no) : PI X (.Tuple elts kk tpos) (.Call (.Name "zip" p) [a, b] [] pos) (tI X.K Wx F) := by
  subst hF
  refine (RZ.pi_zipA (c.gl hg) (c.g.free _ hfr) (pa_cons ha (pa_cons hb pa_nil (star_cons hst2)) (star_cons hst)) (star_cons hst) (by rw [star_cons hst2]; rfl)).imp fun σ H R ⟨env, g, μ, P, r, er, q⟩ => ?_
  refine step1 (p := fun H μ => PostI X.K H μ P R) r er (fun e h => PostI.up e h) q fun w1 g1 v1 H1 μ1 r1 e1 er1 h1 q => ?_
  refine step1 (p := fun H μ => PostI X.K H μ P R) r1 er1 (fun e h => PostI.up e h) q fun w2 g2 v2 H2 μ2 r2 e2 er2 h2 q2 => ?_
  clear q
  have q := q2
  clear q2
  split at q
  · rename_i xs ys
    have h1 : Fz X.K H2 (Ms μ2 P) v1 (.list xs) := Fz.up e2 h1
    have h2 : Fz X.K H2 (Ms μ2 P) v2 (.list ys) := h2
    obtain ⟨a, vs, rfl, hq, fa⟩ := (show Pk X.K H2 (Ms μ2 P) v1 (.list xs) from .inl h1).list
    obtain ⟨b, us, rfl, hq2, fb⟩ := (show Pk X.K H2 (Ms μ2 P) v2 (.list ys) from .inl h2).list
    have q : PostI X.K H2 μ2 P R _ g2 := q
    exact ⟨a, b, vs, us, rfl, .inl ⟨SqL.of hq, SqL.of hq2, q _ H2 μ2 r2 .refl (gives_zipL h1 h2)⟩⟩
  · rename_i xs ys
    have h1 : Fz X.K H2 (Ms μ2 P) v1 (.tuple xs) := Fz.up e2 h1
    have h2 : Fz X.K H2 (Ms μ2 P) v2 (.tuple ys) := h2
    obtain ⟨a, vs, rfl, hq, fa⟩ := (show Pk X.K H2 (Ms μ2 P) v1 (.tuple xs) from .inl h1).tuple
    obtain ⟨b, us, rfl, hq2, fb⟩ := (show Pk X.K H2 (Ms μ2 P) v2 (.tuple ys) from .inl h2).tuple
    have q : PostI X.K H2 μ2 P R _ g2 := q
    exact ⟨a, b, vs, us, rfl, .inr ⟨hq, hq2, q _ H2 μ2 r2 .refl (gives_zipT h1 h2)⟩⟩
  · exact q.elim
theorem si_enum (c : Cok T X k sc N Wx) {elts : List Expr} {kk : Nat} {tpos : Pos} {a : Expr} {p pos : Pos} {fa : Env → Gs → Out W} {F : Env → Gs → Out (List D)} (hg : sc.names.lookup ("enumerate" : Str) = some .globalImplicit) (hfr : ("enumerate" : Str) ∈ T.free) (hst : notStar a = true) (ha : PE X a (tE X.K Wx fa))
    (hF : F = fun env g => (fa env g).bind fun x g1 => match x with
    | .d (.list xs) => .ok (xs.mapIdx fun i y => .tuple [.int (i : Nat), y]) g1
    | _ => .no) : PI X (.Tuple elts kk tpos) (.Call (.Name "enumerate" p) [a] [] pos) (tI X.K Wx F) := by
  subst hF
  refine (pi_enum (c.gl hg) (c.g.free _ hfr) (pa_cons ha pa_nil (star_cons hst)) (star_cons hst)).imp fun σ H R ⟨env, g, μ, P, r, er, q⟩ => ?_
  refine ⟨env, g, μ, P, r, er, q.bind.mono (fun w g1 q v H1 μ1 r1 e1 h1 => ?_) fun _ _ z => z⟩
  split at q
  · rename_i xs
    have h1 : Fz X.K H1 (Ms μ1 P) v (.list xs) := h1
    obtain ⟨a, vs, rfl, hq, fa⟩ := (show Pk X.K H1 (Ms μ1 P) v (.list xs) from .inl h1).list
    have q : PostI X.K H μ P R _ g1 := q
    exact ⟨a, vs, rfl, SqL.of hq, q _ H1 μ1 r1 e1 (gives_enum h1)⟩
  · exact q.elim
end RF
end
section
set_option Elab.async false
set_option linter.all false
set_option maxRecDepth 100000
/-! Readings: targets, comprehensions. -/
namespace RF
open PySem PySem.Spec PyProof.Rows L2
variable {X : Cx} {Wx : WX} {T : Tab} {k : Nat} {sc : Scope} {N : List Str}

/-! ### targets -/
mutual
def tgS : Tg → List Nat
  | .nm i => [i]
  | .tup ts => tgsS ts
def tgsS : Tgs → List Nat
  | .nil => []
  | .cons t r => tgS t ++ tgsS r
end
def tgsLen : Tgs → Nat
  | .nil => 0
  | .cons _ r => tgsLen r + 1
/-- σ' is σ but for the slots of is -/
def But (is : List Nat) (σ σ' : L2.St) : Prop := ∀ vs : List Nat, (∀ i ∈ is, i ∈ vs) → wipe σ' vs = wipe σ vs
def tG (K : PySem.W.Frag) (t : Tg) : TG := fun v σ H Q => ∃ env w g μ P env', Rel K H μ P g ∧ ER K H μ P σ env ∧ WR K H μ P v w ∧ bindT t w env = some env' ∧ ∀ σ', ER K H μ P σ' env' → But (tgS t) σ σ' → Q σ' H
def tGs (K : PySem.W.Frag) (ts : Tgs) : TGs := fun vs σ H Q => ∃ env xs g μ P env', Rel K H μ P g ∧ ER K H μ P σ env ∧ FzAll K H (Ms μ P) vs xs ∧ bindTs ts xs env = some env' ∧ ∀ σ', ER K H μ P σ' env' → But (tgsS ts) σ σ' → Q σ' H
theorem ER.set {K : PySem.W.Frag} {H : Hp} {μ : List (Option Addr)} {P : Pv} {σ : L2.St} {env : Env} {v : V} {w : W} (e : ER K H μ P σ env) (i : Nat) (h : WR K H μ P v w) : ER K H μ P (σ.set i (some v)) (env.set i (some w)) := by
  refine ⟨by rw [List.length_set, List.length_set]; exact e.len, fun j u q => ?_⟩
  by_cases hj : i = j
  · subst hj
    by_cases hi : i < env.length
    · rw [List.getElem?_set_self hi] at q
      cases q
      exact ⟨v, List.getElem?_set_self (by rw [e.len]; exact hi), h⟩
    · rw [List.getElem?_eq_none (by rw [List.length_set]; omega)] at q
      cases q
  · rw [List.getElem?_set_ne hj] at q
    obtain ⟨x, h1, h2⟩ := e.at_ j u q
    exact ⟨x, by rw [List.getElem?_set_ne hj]; exact h1, h2⟩
theorem but_set (σ : L2.St) (i : Nat) (x : Option V) : But [i] σ (σ.set i x) := fun vs h => wipe_eq (List.length_set ..) fun j hj => List.getElem?_set_ne fun z => hj (by rw [← z]; exact h i List.mem_cons_self)
theorem But.trans {is js : List Nat} {a b c : L2.St} (h : But is a b) (h' : But js b c) : But (is ++ js) a c := fun vs hv => (h' vs fun i hi => hv i (List.mem_append_right _ hi)).trans (h vs fun i hi => hv i (List.mem_append_left _ hi))
theorem But.refl (is : List Nat) (σ : L2.St) : But is σ σ := fun _ _ => rfl
theorem sg_name {i : Nat} {x : Str} {pos : Pos} (h : PG X (.Name x pos) (gName i)) : PG X (.Name x pos) (tG X.K (.nm i)) := by
  refine h.imp fun v σ H Q ⟨env, w, g, μ, P, env', r, er, hv, e, q⟩ => ?_
  unfold bindT at e
  split at e
  · cases e
    exact q _ (er.set i hv) (but_set σ i _)
  · cases e
theorem sgs_nil : PGs X [] (tGs X.K .nil) := by
  refine ⟨fun pins s σ H vs us Q I r ⟨env, xs, g, μ, P, env', rl, er, hv, e, q⟩ => (pgs_nil (X := X)).run pins s σ H vs us Q I r ?_⟩
  cases xs with
  | nil =>
    cases hv
    cases e
    exact ⟨rfl, q _ er (.refl _ _)⟩
  | cons => cases e
theorem assignEach_cons {e : Expr} {es : List Expr} {env : PySem.Env} (h : notStar e = true) : assignEach (e :: es) env = (false, assign e env) :: assignEach es env := by
  cases e <;> first
    | rfl
    | cases h
theorem sgs_cons {e : Expr} {es : List Expr} {t : Tg} {ts : Tgs} (hs : notStar e = true) (h1 : PG X e (tG X.K t)) (h2 : PGs X es (tGs X.K ts)) : PGs X (e :: es) (tGs X.K (.cons t ts)) := by
  refine ⟨fun pins s σ H vs us Q I r ⟨env, xs, g, μ, P, env', rl, er, hv, e, q⟩ => (pgs_cons h1 h2 (by rw [assignEach_cons hs]; rfl)).run pins s σ H vs us Q I r ?_⟩
  cases xs with
  | nil => cases e
  | cons x xs =>
    cases hv with
    | @cons v vs _ _ hx hxs =>
      obtain ⟨env1, e1, e2⟩ := Option.bind_eq_some_iff.mp (show (bindT t (.d x) env).bind (fun env' => bindTs ts xs env') = some env' from e)
      refine ⟨v, vs, rfl, env, .d x, g, μ, P, env1, rl, er, hx, e1, fun σ1 er1 b1 => ?_⟩
      exact ⟨env1, xs, g, μ, P, env', rl, er1, hxs, e2, fun σ2 er2 b2 => q σ2 er2 (b1.trans b2)⟩
theorem bindTs_len : ∀ {ts : Tgs} {xs : List D} {env env' : Env}, bindTs ts xs env = some env' → xs.length = tgsLen ts
  | .nil, [], _, _, _ => rfl
  | .nil, _ :: _, _, _, h => by cases h
  | .cons _ _, [], _, _, h => by cases h
  | .cons t r, x :: xs, env, env', h => by
    obtain ⟨_, _, h2⟩ := Option.bind_eq_some_iff.mp (show (bindT t (.d x) env).bind (fun env' => bindTs r xs env') = some env' from h)
    show xs.length + 1 = tgsLen r + 1
    rw [bindTs_len h2]
theorem sg_tup {es : List Expr} {kk : Nat} {pos : Pos} {ts : Tgs} (hc : X.calm = true) (h : PGs X es (tGs X.K ts)) (hn : (assignEach es X.env).length = tgsLen ts) (hst : (assignEach es X.env).findIdx? (·.1) = none) : PG X (.Tuple es kk pos) (tG X.K (.tup ts)) := by
  refine (pg_tup hc h hn hst).imp fun v σ H Q ⟨env, w, g, μ, P, env', r, er, hv, e, q⟩ => ?_
  cases w with
  | d x =>
    cases x <;> first
      | (cases e; done)
      | skip
    case tuple xs =>
      have e : bindTs ts xs env = some env' := e
      obtain ⟨a, vs, rfl, hq, f⟩ := (show Pk X.K H (Ms μ P) v (.tuple xs) from .inl hv).tuple
      exact ⟨a, vs, rfl, hq, by rw [f.length, bindTs_len e], env, xs, g, μ, P, env', r, er, f, e, q⟩
  | ref n => cases e
  | scr n => cases e

/-! ### comprehensions -/
def noX : WX := fun _ _ _ _ => False
def NGd {α : Type} (o : Out α) (p : α → Gs → Prop) : Prop := match o with
  | .ok a g => p a g
  | _ => False
theorem NGd.of {α : Type} {o : Out α} {p : α → Gs → Prop} {r : Exn → Gs → Prop} (h : Gd (noExc o) p r) : NGd o p := by cases o <;> exact h
theorem NGd.gd {α : Type} {o : Out α} {p : α → Gs → Prop} {r : Exn → Gs → Prop} (h : NGd o p) : Gd o p r := by
  cases o with
  | ok a g => exact h
  | exc e g => exact h.elim
  | no => exact h
theorem NGd.bind {α β : Type} {o : Out α} {f : α → Gs → Out β} {p : β → Gs → Prop} (h : NGd (o.bind f) p) : NGd o (fun a g => NGd (f a g) p) := by
  cases o <;> exact h
theorem NGd.mono {α : Type} {o : Out α} {p p' : α → Gs → Prop} (h : NGd o p) (hp : ∀ a g, p a g → p' a g) : NGd o p' := by
  cases o with
  | ok a g => exact hp a g h
  | exc e g => exact h
  | no => exact h
theorem ER.wipe {K : PySem.W.Frag} {H : Hp} {μ : List (Option Addr)} {P : Pv} {σ : L2.St} {env : Env} (e : ER K H μ P σ env) : ∀ vs : List Nat, ER K H μ P (wipe σ vs) (wipeE env vs)
  | [] => e
  | v :: vs => by
    have ih := ER.wipe e vs
    unfold L2.wipe wipeE
    refine ⟨by rw [List.length_set, List.length_set]; exact ih.len, fun j u q => ?_⟩
    by_cases hj : v = j
    · subst hj
      by_cases hi : v < (wipeE env vs).length
      · rw [List.getElem?_set_self hi] at q
        cases q
      · rw [List.getElem?_eq_none (by rw [List.length_set]; omega)] at q
        cases q
    · rw [List.getElem?_set_ne hj] at q
      obtain ⟨x, h1, h2⟩ := ih.at_ j u q
      exact ⟨x, by rw [List.getElem?_set_ne hj]; exact h1, h2⟩
theorem later_of {K : PySem.W.Frag} {H1 H : Hp} {μ1 μ : List (Option Addr)} {P : Pv} {g : Gs} {D : Addr} (e : Ext H1 μ1 H μ) (r : Rel K H μ (Pd P D) g) (h : H1 D = none) : Later H1 (Ms μ1 P) H (Ms μ (Pd P D)) := by
  refine ⟨fun a o q n nt => e.keep a o q (fun z => n (.inl z)) nt, fun a m => ?_, fun a z m => r.out z m⟩
  rcases m with m | m | m
  · exact (e.new a m).imp .inl id
  · exact .inl (.inr m)
  · subst m; exact .inr (no_oc h)
/-- the comprehension's turns -/
theorem lc_turns {K : PySem.W.Frag} {elt : Env → Gs → Out W} {test : Env → Gs → Out Bool} {tg : Tg} {own : List Nat} {xs : List RF.D} {σ : L2.St} {env : Env} {J : It} {H1 : Hp} {μ1 : List (Option Addr)} {P : Pv} {g1 : Gs} {Q : VK} {D : Addr}
    (few : xs.length ≤ sizeLine) (tgo : ∀ i ∈ tgS tg, i ∈ own) (r1 : Rel K H1 μ1 P g1) (er1 : ER K H1 μ1 P σ env) (gv : Gives K J H1 (Ms μ1 P) xs) (hD : H1 D = none)
    (h : NGd (lcGo (fun x => bindT tg (.d x) (wipeE env own)) test elt xs [] g1) (fun ys g2 => Post K H1 μ1 P Q (.ref g2.length) (g2 ++ [some (.lst ys)]))) :
    ∃ W : Nat → Nat → Hp → Prop, (∃ m, W 0 m (upd H1 D (.lst []))) ∧ ∀ i m H, W i m H →
      (J.stop i H ∧ Q (.ref D) H) ∨ (J.go i H ∧ ∃ Nx : Hp → Prop, (∀ H', Nx H' → ∃ m', m' < m ∧ W (i + 1) m' H') ∧ ∀ x H', J.yld i H x H' → tG K tg x (wipe σ own) H' fun σ2 H2 => wipe σ2 own = wipe σ own ∧ tT K noX test σ2 H2 fun b H3 =>
        if b = true then tE K noX elt σ2 H3 fun y H4 => ∃ acc, H4 D = some (.lst acc) ∧ acc.length < sizeLine ∧ Nx (upd H4 D (.lst (acc ++ [y]))) else Nx H3) := by
  have ndP : ¬ P D := fun z => no_oc hD (r1.priv D z)
  let Pv : Nat → Hp → Prop := fun i H => ∃ (g : Gs) (μ : List (Option Addr)) (acc : List RF.D) (vs : List V), Rel K H μ (Pd P D) g ∧ Ext H1 μ1 H μ ∧ H D = some (.lst vs) ∧ FzAll K H (Ms μ (Pd P D)) vs acc ∧ acc.length ≤ i ∧
    ER K H μ (Pd P D) σ env ∧
    NGd (lcGo (fun x => bindT tg (.d x) (wipeE env own)) test elt (xs.drop i) acc g) (fun ys g2 => Post K H1 μ1 P Q (.ref g2.length) (g2 ++ [some (.lst ys)]))
  let Y : Nat → Hp → V → Hp → Prop := fun i H v H' => J.yld i H v H'
  have wk : Walk J xs.length (fun H => ∃ M, Later H1 (Ms μ1 P) H M) Y :=
    ⟨fun i H hi ⟨M, l⟩ => (gv H M l).1 i hi, fun H ⟨M, l⟩ => (gv H M l).2.1, fun i H x H' _ _ y => y⟩
  refine lc_it wk Pv ?_ ?_ ?_ ?_
  · exact ⟨g1, μ1, [], [], r1.hide hD, (Ext.refl).putD hD _, upd_same, .nil, Nat.le_refl _, ER.hide r1 hD er1, by rw [List.drop_zero]; exact h⟩
  · rintro i H hi ⟨g, μ, acc, vs, r, e, _⟩
    exact ⟨_, later_of e r hD⟩
  · rintro i x H H' hi ⟨g, μ, acc, vs, r, e, hv, fa, la, er, q⟩ y
    obtain ⟨kp, d, hd, fd⟩ := (gv H _ (later_of e r hD)).2.2 i x H' hi y
    have r' := r.same kp
    have e' : Ext H1 μ1 H' μ := e.trans (Ext.same kp)
    have ed : xs.drop i = d :: xs.drop (i + 1) := by
      obtain ⟨h1, h2⟩ := List.getElem?_eq_some_iff.mp hd
      rw [List.drop_eq_getElem_cons h1, h2]
    rw [ed] at q
    unfold lcGo at q
    split at q
    · exact q.elim
    · rename_i env1 eb
      have er' := (er.up (Ext.same kp)).wipe own
      refine ⟨wipeE env own, .d d, g, μ, Pd P D, env1, r', er', fd, eb, fun σ2 er2 bt => ⟨?_, ?_⟩⟩
      · rw [bt own tgo]
        exact wipe_eq (wipe_length _ _) fun i hi => wipe_out hi
      · have dk : ∀ {H3 : Hp} {μ3 : List (Option Addr)} {g3 : Gs}, Ext H' μ H3 μ3 → Rel K H3 μ3 (Pd P D) g3 → H3 D = some (.lst vs) := fun {H3 μ3 g3} e3 r3 => e3.keep D _ (kp _ _ hv) (fun z => r.apart D z (.inr rfl)) nt_lst
        refine ⟨env1, g, μ, Pd P D, r', er2, (NGd.bind q).gd.mono (fun b g3 q H3 μ3 r3 e3 => ?_) fun _ _ z => z⟩
        have fa3 : FzAll K H3 (Ms μ3 (Pd P D)) vs acc := (fa.up (Ext.same kp)).up e3
        have er3 := (er.up (Ext.same kp)).up e3
        cases b with
        | true =>
          rw [if_pos rfl] at q
          show tE K noX elt σ2 H3 _
          refine ⟨env1, g3, μ3, Pd P D, r3, er2.up e3, (NGd.bind q).gd.mono (fun w g4 q v H4 μ4 r4 e4 h4 => ?_) fun _ _ z => z⟩
          have q := NGd.bind q
          cases eg : give g4 w with
          | ok y g5 =>
            rw [eg] at q
            have q : NGd _ _ := q
            obtain ⟨μ5, r5, e5, f5⟩ := r4.give h4 eg
            have hv5 := dk (e3.trans e4) r4
            have fa5 : FzAll K H4 (Ms μ5 (Pd P D)) vs acc := (fa3.up e4).up e5
            obtain ⟨r6, fz6⟩ := r5.writeD hv5 (vs ++ [v])
            have hl := fa.length
            refine ⟨vs, hv5, by omega, g5, μ5, acc ++ [y], vs ++ [v], r6, ((e'.trans (e3.trans e4)).trans e5).putD hD _, upd_same, fz6 (fa5.append (.cons f5 .nil)), by rw [List.length_append]; simp; omega, ?_, q⟩
            have er5 := (er3.up e4).up e5
            refine ⟨er5.len, fun j w' hj => ?_⟩
            obtain ⟨u, h1, h2⟩ := er5.at_ j w' hj
            refine ⟨u, h1, ?_⟩
            cases w' with
            | d z =>
              have := fz6 (FzAll.cons (show Fz K H4 (Ms μ5 (Pd P D)) u z from h2) .nil)
              cases this with
              | cons h _ => exact h
            | scr ns =>
              obtain ⟨a, e1, e2⟩ := h2
              refine ⟨a, e1, e2.imp (fun ⟨e2, e3⟩ => ⟨?_, e3⟩) id⟩
              have ne : a ≠ D := fun z => e3 (by rw [z]; exact .inr (.inr rfl))
              unfold Rd
              rw [upd_ne ne]
              exact e2
            | ref n => exact h2
          | exc x g5 => rw [eg] at q; exact q.elim
          | no => rw [eg] at q; exact q.elim
        | false =>
          rw [if_neg Bool.false_ne_true] at q
          show Pv (i + 1) H3
          exact ⟨g3, μ3, acc, vs, r3, e'.trans e3, dk e3 r3, fa3, by omega, er3, q⟩
  · rintro H ⟨g, μ, acc, vs, r, e, hv, fa, la, er, q⟩
    rw [List.drop_length] at q
    have q : Post K H1 μ1 P Q (.ref g.length) (g ++ [some (.lst acc)]) := q
    have rs := r.shown ndP hv fa
    refine q _ H _ rs (e.showD hD) ⟨by rw [List.length_append, r.len]; simp, fun a h => ?_⟩
    rw [List.getElem?_append_right (by rw [r.len]; exact Nat.le_refl _), r.len] at h
    simp at h
    rw [h]
end RF
end
section
set_option Elab.async false
set_option linter.all false
set_option maxRecDepth 100000
/-! Readings: comprehensions as expressions, statements. -/
namespace RF
open PySem PySem.Spec PyProof.Rows L2
variable {X : Cx} {Wx : WX} {T : Tab} {k : Nat} {sc : Scope} {N : List Str}

/-! ### comprehensions -/
theorem lc_read {fi : Env → Gs → Out (List D)} {felt : Env → Gs → Out W} {test : Env → Gs → Out Bool} {tg : Tg} {vs : List Nat} {F : Env → Gs → Out W} (tgo : ∀ i ∈ tgS tg, i ∈ vs)
    (hF : F = fun env g => (fi env g).bind fun xs g1 => if decide (xs.length ≤ sizeLine) = true then (noExc (lcGo (fun x => bindT tg (.d x) (wipeE env vs)) (fun env g => test env g) (fun env g => felt env g) xs [] g1)).bind fun ys g2 => newL g2 ys else .no)
    {K : PySem.W.Frag} {σ : L2.St} {H : Hp} {Q : VK} (h : tE K Wx F σ H Q) : tLc (tI K Wx fi) (tG K tg) (tT K noX test) (tE K noX felt) vs σ H Q := by
  subst hF
  obtain ⟨env, g, μ, P, r, er, q⟩ := h
  refine ⟨env, g, μ, P, r, er, q.bind.mono (fun xs g1 q J H1 μ1 r1 e1 gv D hD => ?_) fun _ _ z => z⟩
  obtain ⟨hc, q⟩ := guard_of q
  refine lc_turns (decT hc) tgo r1 (er.up e1) gv hD (NGd.mono (p := fun ys g2 => Post K H μ P Q (.ref g2.length) (g2 ++ [some (.lst ys)])) ?_ fun ys g2 z => Post.up e1 z)
  have q2 := q.bind
  cases e : noExc (lcGo (fun x => bindT tg (.d x) (wipeE env vs)) (fun env g => test env g) (fun env g => felt env g) xs [] g1) with
  | ok ys g2 =>
    rw [e] at q2
    have e2 : lcGo (fun x => bindT tg (.d x) (wipeE env vs)) (fun env g => test env g) (fun env g => felt env g) xs [] g1 = .ok ys g2 := by
      cases e3 : lcGo (fun x => bindT tg (.d x) (wipeE env vs)) (fun env g => test env g) (fun env g => felt env g) xs [] g1 <;> rw [e3] at e <;> cases e
      rfl
    show NGd (lcGo (fun x => bindT tg (.d x) (wipeE env vs)) (fun env g => test env g) (fun env g => felt env g) xs [] g1) _
    rw [e2]
    exact q2
  | exc x g2 =>
    exfalso
    cases e3 : lcGo (fun x => bindT tg (.d x) (wipeE env vs)) (fun env g => test env g) (fun env g => felt env g) xs [] g1 <;> rw [e3] at e <;> cases e
  | no => rw [e] at q2; exact q2.elim

/-! ### outcomes of statements -/
def SG (o : OS) (pn : Env → Gs → Prop) (pr : W → Gs → Prop) (px : Exn → Env → Gs → Prop) : Prop := match o with
  | .nx env g => pn env g
  | .rt w g => pr w g
  | .exc e env g => px e env g
  | .no => False
def PN (K : PySem.W.Frag) (H : Hp) (μ : List (Option Addr)) (P : Pv) (Q : L2.St → Hp → Prop) (env : Env) (g : Gs) : Prop := ∀ σ' H' μ', Rel K H' μ' P g → Ext H μ H' μ' → ER K H' μ' P σ' env → Q σ' H'
def PX (K : PySem.W.Frag) (Wx : WX) (H : Hp) (μ : List (Option Addr)) (P : Pv) (e : Exn) (env : Env) (g : Gs) : Prop := ∀ cls d σ' H' μ', Rel K H' μ' P g → Ext H μ H' μ' → ER K H' μ' P σ' env → ExR K H' e cls d → Wx cls d σ' H'
def SP3 (K : PySem.W.Frag) (Wx : WX) (D : Ends) (H : Hp) (μ : List (Option Addr)) (P : Pv) (o : OS) : Prop := SG o (PN K H μ P D.nx) (Post K H μ P D.rt) (PX K Wx H μ P)
def tS (K : PySem.W.Frag) (Wx : WX) (f : Env → Gs → OS) : TS := fun D σ H => ∃ env g μ P, Rel K H μ P g ∧ ER K H μ P σ env ∧ SP3 K Wx D H μ P (f env g)
section
variable {K : PySem.W.Frag} {D : Ends} {H H1 : Hp} {μ μ1 : List (Option Addr)} {P : Pv} {o : OS}
theorem SP3.up (e : Ext H μ H1 μ1) (h : SP3 K Wx D H μ P o) : SP3 K Wx D H1 μ1 P o := by
  cases o with
  | nx env g => exact fun σ' H' μ' r e' q => h σ' H' μ' r (e.trans e') q
  | rt w g => exact Post.up e h
  | exc x env g => exact fun cls d σ' H' μ' r e' er q => h cls d σ' H' μ' r (e.trans e') er q
  | no => exact h
theorem st_bind {α : Type} {env : Env} {o : Out α} {kk : α → Gs → OS} (h : SP3 K Wx D H μ P (o.st env kk)) : Gd o (fun a g => SP3 K Wx D H μ P (kk a g)) (fun e g => PX K Wx H μ P e env g) := by
  cases o <;> exact h
theorem PX.rx {σ : L2.St} {env : Env} {e : Exn} {g : Gs} (er : ER K H μ P σ env) (h : PX K Wx H μ P e env g) : Rx K Wx σ H μ P e g := fun cls d H' μ' r e' q => h cls d σ H' μ' r e' (er.up e') q
/-- an expression of a statement is read -/
theorem stE {f : Env → Gs → Out W} {σ : L2.St} {env : Env} {g : Gs} {kk : W → Gs → OS} {Q : VK} (r : Rel K H μ P g) (er : ER K H μ P σ env) (h : SP3 K Wx D H μ P ((f env g).st env kk))
    (q : ∀ w g1 v H1 μ1, Rel K H1 μ1 P g1 → Ext H μ H1 μ1 → ER K H1 μ1 P σ env → WR K H1 μ1 P v w → SP3 K Wx D H1 μ1 P (kk w g1) → Q v H1) : tE K Wx f σ H Q :=
  ⟨env, g, μ, P, r, er, (st_bind h).mono (fun w g1 z v H1 μ1 r1 e1 w1 => q w g1 v H1 μ1 r1 e1 (er.up e1) w1 (z.up e1)) fun _ _ z => z.rx er⟩
theorem stT {f : Env → Gs → Out Bool} {σ : L2.St} {env : Env} {g : Gs} {kk : Bool → Gs → OS} {Q : Bool → Hp → Prop} (r : Rel K H μ P g) (er : ER K H μ P σ env) (h : SP3 K Wx D H μ P ((f env g).st env kk))
    (q : ∀ w g1 H1 μ1, Rel K H1 μ1 P g1 → Ext H μ H1 μ1 → ER K H1 μ1 P σ env → SP3 K Wx D H1 μ1 P (kk w g1) → Q w H1) : tT K Wx f σ H Q :=
  ⟨env, g, μ, P, r, er, (st_bind h).mono (fun w g1 z H1 μ1 r1 e1 => q w g1 H1 μ1 r1 e1 (er.up e1) (z.up e1)) fun _ _ z => z.rx er⟩
theorem stA {f : Env → Gs → Out (List W)} {σ : L2.St} {env : Env} {g : Gs} {kk : List W → Gs → OS} {Q : List V → Hp → Prop} (r : Rel K H μ P g) (er : ER K H μ P σ env) (h : SP3 K Wx D H μ P ((f env g).st env kk))
    (q : ∀ ws g1 vs H1 μ1, Rel K H1 μ1 P g1 → Ext H μ H1 μ1 → ER K H1 μ1 P σ env → WRs K H1 μ1 P vs ws → SP3 K Wx D H1 μ1 P (kk ws g1) → Q vs H1) : tA K Wx f σ H Q :=
  ⟨env, g, μ, P, r, er, (st_bind h).mono (fun w g1 z v H1 μ1 r1 e1 w1 => q w g1 v H1 μ1 r1 e1 (er.up e1) w1 (z.up e1)) fun _ _ z => z.rx er⟩
theorem SP3.seq {o : OS} {f : Env → Gs → OS} (h : SP3 K Wx D H μ P (o.seq f)) : SP3 K Wx { D with nx := tS K Wx f D } H μ P o := by
  cases o with
  | nx env g => exact fun σ' H' μ' r e er => ⟨env, g, μ', P, r, er, SP3.up e h⟩
  | rt w g => exact h
  | exc x env g => exact h
  | no => exact h
theorem SP3.here {env : Env} {g : Gs} {σ : L2.St} (h : SP3 K Wx D H μ P (.nx env g)) (r : Rel K H μ P g) (er : ER K H μ P σ env) : D.nx σ H := h σ H μ r .refl er
theorem SP3.ends {D' : Ends} (h : SP3 K Wx D H μ P o) (hn : ∀ σ H, D.nx σ H → D'.nx σ H) (hr : D'.rt = D.rt) : SP3 K Wx D' H μ P o := by
  cases o with
  | nx env g => exact fun σ' H' μ' r e er => hn _ _ (h σ' H' μ' r e er)
  | rt w g =>
    show Post K H μ P D'.rt w g
    rw [hr]; exact h
  | exc x env g => exact h
  | no => exact h
end
/-! ### statements -/
theorem ss_nil {F : Env → Gs → OS} (hF : F = fun env g => .nx env g) : PSs X [] (tS X.K Wx F) := by
  subst hF
  exact pss_nil.imp fun D σ H ⟨env, g, μ, P, r, er, q⟩ => q.here r er
theorem ss_cons {s : Stmt} {ss : List Stmt} {f fs F : Env → Gs → OS} (h : PS X s (tS X.K Wx f)) (hs : PSs X ss (tS X.K Wx fs)) (hF : F = fun env g => (f env g).seq fun env1 g1 => fs env1 g1) : PSs X (s :: ss) (tS X.K Wx F) := by
  subst hF
  exact (pss_cons h hs).imp fun D σ H ⟨env, g, μ, P, r, er, q⟩ => ⟨env, g, μ, P, r, er, q.seq⟩
/-- a ghost: the mutable list of a name is data from now on -/
theorem ss_frz {ss : List Stmt} {i : Nat} {fs F : Env → Gs → OS} (hs : PSs X ss (tS X.K Wx fs)) (hF : F = fun env g => (match env[i]? with
    | some (some (.ref n)) => (match g[n]? with
      | some (some (.lst xs)) => OS.nx (env.set i (some (.d (.list xs)))) (g.set n none)
      | _ => .no)
    | _ => .no).seq fun env1 g1 => fs env1 g1) : PSs X ss (tS X.K Wx F) := by
  subst hF
  refine hs.imp fun D σ H ⟨env, g, μ, P, r, er, q⟩ => ?_
  dsimp only at q
  split at q
  · rename_i n e
    split at q
    · rename_i xs eg
      obtain ⟨v, hv, hw⟩ := er.at_ i _ e
      obtain ⟨μ', r', e', f⟩ := r.give (w := .ref n) hw (x := .list xs) (g' := g.set n none) (by simp only [RF.give, eg])
      have er' := (er.up e').set i (w := .d (.list xs)) (v := v) f
      have hs : σ.set i (some v) = σ := by
        apply List.ext_getElem?
        intro j
        by_cases hj : i = j
        · subst hj
          rw [List.getElem?_set_self (by rw [er.len]; exact (List.getElem?_eq_some_iff.mp e).1), hv]
        · rw [List.getElem?_set_ne hj]
      rw [hs] at er'
      exact ⟨_, _, μ', P, r', er', SP3.up e' q⟩
    · exact q.elim
  · exact q.elim
theorem s_doc {x : Str} {j pos pos'} {F : Env → Gs → OS} (hF : F = fun env g => .nx env g) : PS X (.Expr (.Constant (.str x) j pos) pos') (tS X.K Wx F) := by
  subst hF
  exact ps_doc.imp fun D σ H ⟨env, g, μ, P, r, er, q⟩ => q.here r er
theorem s_pass {pos : Pos} {F : Env → Gs → OS} (hF : F = fun env g => .nx env g) : PS X (.Pass pos) (tS X.K Wx F) := by
  subst hF
  exact ps_pass.imp fun D σ H ⟨env, g, μ, P, r, er, q⟩ => q.here r er
theorem s_ret {e : Expr} {pos : Pos} {f : Env → Gs → Out W} {F : Env → Gs → OS} (h : PE X e (tE X.K Wx f)) (hF : F = fun env g => (f env g).st env fun w g1 => .rt w g1) : PS X (.Return (some e) pos) (tS X.K Wx F) := by
  subst hF
  refine (ps_ret h).imp fun D σ H ⟨env, g, μ, P, r, er, q⟩ => ?_
  refine stE r er q fun w g1 v H1 μ1 r1 e1 er1 h1 q => ?_
  exact (show Post X.K H1 μ1 P D.rt w g1 from q).here r1 h1
theorem s_ex {e : Expr} {pos : Pos} {f : Env → Gs → Out W} {F : Env → Gs → OS} (h : PE X e (tE X.K Wx f)) (hs : swapsWith e none pos.line X.env = pure false) (hF : F = fun env g => (f env g).st env fun _ g1 => .nx env g1) : PS X (.Expr e pos) (tS X.K Wx F) := by
  subst hF
  refine (ps_expr h hs).imp fun D σ H ⟨env, g, μ, P, r, er, q⟩ => ?_
  exact stE r er q fun w g1 v H1 μ1 r1 e1 er1 h1 q => q.here r1 er1
theorem s_ite {c : Expr} {a b : List Stmt} {pos : Pos} {fc : Env → Gs → Out Bool} {fa fb F : Env → Gs → OS} (hc : PT X c (tT X.K Wx fc)) (ha : PSs X a (tS X.K Wx fa)) (hb : PSs X b (tS X.K Wx fb))
    (hF : F = fun env g => (fc env g).st env fun t g1 => if t = true then fa env g1 else fb env g1) : PS X (.If c a b pos) (tS X.K Wx F) := by
  subst hF
  refine (ps_if hc ha hb).imp fun D σ H ⟨env, g, μ, P, r, er, q⟩ => ?_
  refine stT r er q fun t g1 H1 μ1 r1 e1 er1 q => ?_
  cases t with
  | true => exact ⟨env, g1, μ1, P, r1, er1, q⟩
  | false => exact ⟨env, g1, μ1, P, r1, er1, q⟩
/-- stored to a name -/
theorem tset_read {K : PySem.W.Frag} {i : Nat} {f : Env → Gs → Out W} {F : Env → Gs → OS} (hF : F = fun env g => (f env g).st env fun w g1 => match bindT (.nm i) w env with
    | some env1 => .nx env1 g1
    | none => .no) {D : Ends} {σ : L2.St} {H : Hp} (h : tS K Wx F D σ H) : tAsg (tE K Wx f) (gName i) D σ H := by
  subst hF
  obtain ⟨env, g, μ, P, r, er, q⟩ := h
  refine stE r er q fun w g1 v H1 μ1 r1 e1 er1 h1 q => ?_
  unfold bindT at q
  split at q
  · rename_i env1 e
    split at e
    · cases e
      exact q.here r1 (er1.set i h1)
    · cases e
  · exact q.elim
theorem s_set {x : Str} {e : Expr} {i : Nat} {pos pos' : Pos} {f : Env → Gs → Out W} {F : Env → Gs → OS} (h : PS X (.Assign [.Name x pos'] e pos) (tAsg (tE X.K Wx f) (gName i))) (hF : F = fun env g => (f env g).st env fun w g1 => match bindT (.nm i) w env with
    | some env1 => .nx env1 g1
    | none => .no) : PS X (.Assign [.Name x pos'] e pos) (tS X.K Wx F) := h.imp fun D σ H q => tset_read hF q
theorem s_setT {tgE e : Expr} {t : Tg} {pos : Pos} {f : Env → Gs → Out W} {F : Env → Gs → OS} (h : PE X e (tE X.K Wx f)) (hg : PG X tgE (tG X.K t)) (hst : notStar tgE = true) (hs : swapsWithSole [tgE] e pos.line X.env = pure false) (hw : swappedStores [tgE] e X.env = pure none)
    (hF : F = fun env g => (f env g).st env fun w g1 => match bindT t w env with
    | some env1 => .nx env1 g1
    | none => .no) : PS X (.Assign [tgE] e pos) (tS X.K Wx F) := by
  subst hF
  refine (ps_asg h hg hs hw (by rw [assignEach_cons hst]; rfl)).imp fun D σ H ⟨env, g, μ, P, r, er, q⟩ => ?_
  refine stE r er q fun w g1 v H1 μ1 r1 e1 er1 h1 q => ?_
  split at q
  · rename_i env1 e
    exact ⟨env, w, g1, μ1, P, env1, r1, er1, h1, e, fun σ' er' _ => q.here r1 er'⟩
  · exact q.elim
/-! #### several names at once -/
theorem setAll_er {K : PySem.W.Frag} {H : Hp} {μ : List (Option Addr)} {P : Pv} : ∀ {is : List Nat} {ws : List W} {vs : List V} {σ : L2.St} {env env' : Env}, setAll is ws env = some env' → WRs K H μ P vs ws → ER K H μ P σ env → ∃ σ', ER K H μ P σ' env' ∧ σ' = (is.zip vs).foldl (fun s p => s.set p.1 (some p.2)) σ
  | [], [], _, σ, env, env', h, w, er => by
    cases w
    cases h
    exact ⟨σ, er, rfl⟩
  | [], _ :: _, _, _, _, _, h, _, _ => by cases h
  | _ :: _, [], _, _, _, _, h, _, _ => by cases h
  | i :: is, w :: ws, _, σ, env, env', h, hw, er => by
    cases hw with
    | cons h1 h2 =>
      rename_i v vs
      unfold setAll at h
      split at h
      · obtain ⟨σ', e1, e2⟩ := setAll_er h h2 (er.set i h1)
        exact ⟨σ', e1, by rw [e2]; rfl⟩
      · cases h
def parF (is : List Nat) (fs : Env → Gs → Out (List W)) (env : Env) (g : Gs) : OS := (fs env g).st env fun ws g1 => match setAll is ws env with
  | some env1 => .nx env1 g1
  | none => .no
theorem setAll_len : ∀ {is : List Nat} {ws : List W} {env env' : Env}, setAll is ws env = some env' → is.length = ws.length
  | [], [], _, _, _ => rfl
  | [], _ :: _, _, _, h => by cases h
  | _ :: _, [], _, _, h => by cases h
  | i :: is, w :: ws, env, env', h => by
    unfold setAll at h
    split at h
    · show is.length + 1 = ws.length + 1
      rw [setAll_len h]
    · cases h
theorem par_read2 {K : PySem.W.Frag} {i j : Nat} {fs : Env → Gs → Out (List W)} {D : Ends} {σ : L2.St} {H : Hp} (h : tS K Wx (parF [i, j] fs) D σ H) : tPar i j (tA K Wx fs) D σ H := by
  obtain ⟨env, g, μ, P, r, er, q⟩ := h
  refine stA r er q fun ws g1 vs H1 μ1 r1 e1 er1 h1 q => ?_
  split at q
  · rename_i env1 e
    have hl := setAll_len e
    obtain ⟨σ', er', hs⟩ := setAll_er e h1 er1
    have hv : vs.length = ws.length := Paired.length h1
    rcases vs with _ | ⟨v, _ | ⟨u, _ | ⟨t, r⟩⟩⟩
    · simp at hl hv; omega
    · simp at hl hv; omega
    · refine ⟨v, u, rfl, ?_⟩
      have := q.here r1 er'
      rw [hs] at this
      exact this
    · simp at hl hv; omega
  · exact q.elim
theorem par_read3 {K : PySem.W.Frag} {i j l : Nat} {fs : Env → Gs → Out (List W)} {D : Ends} {σ : L2.St} {H : Hp} (h : tS K Wx (parF [i, j, l] fs) D σ H) : tPar3 i j l (tA K Wx fs) D σ H := by
  obtain ⟨env, g, μ, P, r, er, q⟩ := h
  refine stA r er q fun ws g1 vs H1 μ1 r1 e1 er1 h1 q => ?_
  split at q
  · rename_i env1 e
    have hl := setAll_len e
    obtain ⟨σ', er', hs⟩ := setAll_er e h1 er1
    have hv : vs.length = ws.length := Paired.length h1
    rcases vs with _ | ⟨v, _ | ⟨u, _ | ⟨t, _ | ⟨t2, r⟩⟩⟩⟩
    · simp at hl hv; omega
    · simp at hl hv; omega
    · simp at hl hv; omega
    · refine ⟨v, u, t, rfl, ?_⟩
      have := q.here r1 er'
      rw [hs] at this
      exact this
    · simp at hl hv; omega
  · exact q.elim
/-- the targets of several names, by slots -/
def gNames : List Nat → TGs
  | [] => gNil
  | i :: r => gCons (gName i) (gNames r)
theorem gNames_run : ∀ {is : List Nat} {vs : List V} {σ : L2.St} {H : Hp} {Q : L2.St → Hp → Prop}, is.length = vs.length → Q ((is.zip vs).foldl (fun s p => s.set p.1 (some p.2)) σ) H → gNames is vs σ H Q
  | [], [], _, _, _, _, q => ⟨rfl, q⟩
  | [], _ :: _, _, _, _, h, _ => by cases h
  | _ :: _, [], _, _, _, h, _ => by cases h
  | i :: is, v :: vs, σ, H, Q, h, q => ⟨v, vs, rfl, gNames_run (is := is) (vs := vs) (σ := σ.set i (some v)) (by simpa using h) q⟩
theorem par_readT {is : List Nat} {fs : Env → Gs → Out (List W)} {D : Ends} {σ : L2.St} {H : Hp} (few : is.length ≤ 30) (ne : is ≠ []) (h : tS X.K Wx (parF is fs) D σ H) : tAsg (tTup (tA X.K Wx fs)) (gTup X.K is.length (gNames is)) D σ H := by
  obtain ⟨env, g, μ, P, r, er, q⟩ := h
  refine stA r er q fun ws g1 vs H1 μ1 r1 e1 er1 h1 q => ?_
  split at q
  · rename_i env1 e
    have hl := setAll_len e
    have hv : vs.length = ws.length := Paired.length h1
    refine ⟨by rw [sizeLine_eq]; omega, fun q' hq => ?_⟩
    have kp := keeps_upd (o := .tup vs) hq
    have ex := Ext.same (μ := μ1) kp
    obtain ⟨σ', er', hs⟩ := setAll_er e (h1.up ex) (er1.up ex)
    refine ⟨q', vs, rfl, .inl (.inl upd_same), by omega, gNames_run (by omega) ?_⟩
    have := (SP3.up ex q).here (r1.same kp) er'
    rw [hs] at this
    exact this
  · exact q.elim
/-! #### lists that change -/
theorem s_setix {o i e : Expr} {pos tpos : Pos} {fo fi fe : Env → Gs → Out W} {F : Env → Gs → OS} (ho : PE X o (tE X.K Wx fo)) (hi : PE X i (tE X.K Wx fi)) (he : PE X e (tE X.K Wx fe)) (hs : notSlice i = true)
    (hF : F = fun env g => (fe env g).st env fun w g1 => (give g1 w).st env fun y g2 => (fo env g2).st env fun x g3 => (fi env g3).st env fun k g4 => match x, k with
    | .ref n, .d (.int j) => (match g4[n]? with
      | some (some (.lst xs)) => (match L2.ixN xs.length j with
        | some m => .nx env (g4.set n (some (.lst (xs.set m y))))
        | none => .no)
      | _ => .no)
    | _, _ => .no) : PS X (.Assign [.Subscript o i tpos] e pos) (tS X.K Wx F) := by
  subst hF
  have hsw : swapsWithSole [.Subscript o i tpos] e pos.line X.env = pure false := by cases e <;> rfl
  have hsw2 : swappedStores [.Subscript o i tpos] e X.env = pure none := by cases e <;> rfl
  have hg := pg_sub (pos := tpos) ho hi set_list (by intro v; cases i <;> first | rfl | cases hs)
  refine (ps_asg he hg hsw hsw2).imp fun D σ H ⟨env, g, μ, P, r, er, q⟩ => ?_
  refine stE r er q fun w1 g1 v1 H1 μ1 r1 e1 er1 h1 q1 => ?_
  clear q
  have q := st_bind q1
  cases eg : give g1 w1 with
  | ok y g2 =>
    rw [eg] at q
    replace q : SP3 X.K Wx D H1 μ1 P _ := q
    obtain ⟨μ2, r2, e2, f2⟩ := r1.give h1 eg
    have er2 := er1.up e2
    refine stE r2 er2 (SP3.up e2 q) fun w3 g3 v3 H3 μ3 r3 e3 er3 h3 q3 => ?_
    refine stE r3 er3 q3 fun w4 g4 v4 H4 μ4 r4 e4 er4 h4 q4 => ?_
    clear q q1 q3
    split at q4
    · rename_i n j
      split at q4
      · rename_i xs ex
        split at q4
        · rename_i m em
          cases (show Fz X.K H4 (Ms μ4 P) v4 (.int j) from h4)
          obtain ⟨a, vs, rfl, ha, hH, f⟩ := r4.at ex (h3.up e4)
          have fy := (f2.up e3).up e4
          obtain ⟨rw_, ew⟩ := r4.write (n := n) ha (f.set m fy)
          refine ⟨a, vs, j, m, rfl, rfl, hH, by rw [f.length]; exact em, ?_⟩
          exact (SP3.up ew q4).here rw_ (er4.up ew)
        · exact q4.elim
      · exact q4.elim
    · exact q4.elim
  | exc x g2 => 
    exfalso
    cases w1 with
    | d y => cases eg
    | scr ns => cases eg
    | ref n => simp only [give] at eg; split at eg <;> cases eg
  | no => rw [eg] at q; exact q.elim
end RF
end
section
set_option Elab.async false
set_option linter.all false
set_option maxRecDepth 100000
/-! Readings: more statements. -/
namespace RF
open PySem PySem.Spec PyProof.Rows L2
variable {X : Cx} {Wx : WX} {T : Tab} {k : Nat} {sc : Scope} {N : List Str}
section
variable {K : PySem.W.Frag} {D : Ends} {H H1 : Hp} {μ μ1 : List (Option Addr)} {P : Pv} {o : OS}
theorem SP3.seq2 {o : OS} {f : Env → Gs → OS} (h : SP3 K Wx D H μ P (o.seq f)) {nx : L2.St → Hp → Prop} (hn : ∀ σ' H' env g μ', Rel K H' μ' P g → Ext H μ H' μ' → ER K H' μ' P σ' env → SP3 K Wx D H' μ' P (f env g) → nx σ' H') {D' : Ends} (h1 : D'.nx = nx) (h2 : D'.rt = D.rt) : SP3 K Wx D' H μ P o := by
  cases o with
  | nx env g =>
    intro σ' H' μ' r e er
    rw [h1]
    exact hn σ' H' env g μ' r e er (SP3.up e h)
  | rt w g =>
    show Post K H μ P D'.rt w g
    rw [h2]; exact h
  | exc x env g => exact h
  | no => exact h
end
theorem s_aug {x : Str} {e : Expr} {i : Nat} {o : BO} {pos pos' : Pos} {f : Env → Gs → Out W} {F : Env → Gs → OS} (hN : X.N.Nodup) (hi : X.N[i]? = some x) (hx : Loc X.env.scope x) (hf : X.fn x = true ∨ X.env.scope.names.lookup x = some .local) (h : PE X e (tE X.K Wx f))
    (hF : F = fun env g => (match env[i]? with
    | some (some x) => (f env g).st env fun y g1 => (match x, y with
      | .d (.int a), .d (.int b) => (match o with
        | .add => .nx (env.set i (some (.d (.int (a + b))))) g1
        | .sub => .nx (env.set i (some (.d (.int (a - b))))) g1
        | _ => .no)
      | _, _ => .no)
    | _ => .no)) (ho : o = .add ∨ o = .sub) : PS X (.AugAssign (.Name x pos') (boOp o) e pos) (tS X.K Wx F) := by
  subst hF
  rcases ho with rfl | rfl
  · refine (ps_aug hN hi hx h ip_add hf).imp fun D σ H ⟨env, g, μ, P, r, er, q⟩ => ?_
    dsimp only at q
    split at q
    · rename_i w ew
      obtain ⟨v, hv, hw⟩ := er.at_ i _ ew
      refine ⟨v, hv, stE r er q fun w1 g1 v1 H1 μ1 r1 e1 er1 h1 q1 => ?_⟩
      clear q
      split at q1
      · rename_i a b
        cases (show Fz X.K H (Ms μ P) v (.int a) from hw)
        cases (show Fz X.K H1 (Ms μ1 P) v1 (.int b) from h1)
        exact ⟨a, b, rfl, rfl, q1.here r1 (er1.set i (w := .d (.int (a + b))) (Fz.int _))⟩
      · exact q1.elim
    · exact q.elim
  · refine (ps_aug hN hi hx h ip_sub hf).imp fun D σ H ⟨env, g, μ, P, r, er, q⟩ => ?_
    dsimp only at q
    split at q
    · rename_i w ew
      obtain ⟨v, hv, hw⟩ := er.at_ i _ ew
      refine ⟨v, hv, stE r er q fun w1 g1 v1 H1 μ1 r1 e1 er1 h1 q1 => ?_⟩
      clear q
      split at q1
      · rename_i a b
        cases (show Fz X.K H (Ms μ P) v (.int a) from hw)
        cases (show Fz X.K H1 (Ms μ1 P) v1 (.int b) from h1)
        exact ⟨a, b, rfl, rfl, q1.here r1 (er1.set i (w := .d (.int (a - b))) (Fz.int _))⟩
      · exact q1.elim
    · exact q.elim
theorem set_same {α : Type} {l : List (Option α)} {i : Nat} {v : α} (h : l[i]? = some (some v)) : l.set i (some v) = l := by
  apply List.ext_getElem?
  intro j
  by_cases hj : i = j
  · subst hj
    rw [List.getElem?_set_self (List.getElem?_eq_some_iff.mp h).1, h]
  · rw [List.getElem?_set_ne hj]
theorem s_ext {x : Str} {e : Expr} {i : Nat} {pos pos' : Pos} {f : Env → Gs → Out W} {F : Env → Gs → OS} (hN : X.N.Nodup) (hi : X.N[i]? = some x) (hx : Loc X.env.scope x) (hf : X.fn x = true ∨ X.env.scope.names.lookup x = some .local) (h : PE X e (tE X.K Wx f))
    (hF : F = fun env g => (match env[i]? with
    | some (some (.ref n)) => (f env g).st env fun y g1 => (match y, g1[n]? with
      | .d (.list ys), some (some (.lst xs)) => if decide (xs.length + ys.length ≤ sizeLine) = true then .nx env (g1.set n (some (.lst (xs ++ ys)))) else .no
      | _, _ => .no)
    | _ => .no)) : PS X (.AugAssign (.Name x pos') .Add e pos) (tS X.K Wx F) := by
  subst hF
  refine (ps_aug hN hi hx h (show PIp X .Add rExt2 from iop_ext) hf).imp fun D σ H ⟨env, g, μ, P, r, er, q⟩ => ?_
  dsimp only at q
  split at q
  · rename_i n ew
    obtain ⟨v, hv, hw⟩ := er.at_ i _ ew
    refine ⟨v, hv, stE r er q fun w1 g1 v1 H1 μ1 r1 e1 er1 h1 q1 => ?_⟩
    clear q
    split at q1
    · rename_i ys xs eg
      obtain ⟨a, vs, rfl, ha, hH, f⟩ := r1.at eg (hw.up e1)
      have h1 : Fz X.K H1 (Ms μ1 P) v1 (.list ys) := h1
      obtain ⟨b, us, rfl, hb, fb⟩ := (show Pk X.K H1 (Ms μ1 P) v1 (.list ys) from .inl h1).list
      split at q1
      · rename_i hc
        obtain ⟨rw_, ew2⟩ := r1.write (n := n) ha (f.append fb)
        refine ⟨a, b, vs, us, rfl, rfl, hH, hb, by rw [f.length, fb.length]; exact decT hc, ?_⟩
        have er2 := er1.up ew2
        have := (SP3.up ew2 q1).here rw_ er2
        show D.nx (List.set σ i (some (V.ref a))) _
        rw [set_same (hv : σ[i]? = some (some (V.ref a)))]
        exact this
      · exact q1.elim
    · exact q1.elim
  · exact q.elim
theorem s_app {o e : Expr} {apos cpos pos : Pos} {fo f : Env → Gs → Out W} {F : Env → Gs → OS} (ho : PE X o (tE X.K Wx fo)) (h : PE X e (tE X.K Wx f)) (hst : notStar e = true)
    (hbase : attributeBase o "append" X.env (eval o X.env) = eval o X.env) (hline : (apos.endLine == cpos.line) = true)
    (hF : F = fun env g => (fo env g).st env fun x g1 => match x, peek g1 x with
    | .ref n, some (.list _) => (f env g1).st env fun w g2 => (give g2 w).st env fun y g3 => (match g3[n]? with
      | some (some (.lst xs)) => if decide (xs.length < sizeLine) = true then .nx env (g3.set n (some (.lst (xs ++ [y])))) else .no
      | _ => .no)
    | _, _ => .no) : PS X (.Expr (.Call (.Attribute o "append" apos) [e] [] cpos) pos) (tS X.K Wx F) := by
  subst hF
  have hs := star_cons (e := e) (es := []) (env := X.env) hst
  have hfew : ((backTo cpos (starEach [e] X.env)).all (fun x => !x.1) && (backToKw cpos (keywordEach [] X.env)).all (fun x => x.1.isSome) && decide ([e].length + ([] : List Keyword).length + (if ([] : List Keyword).isEmpty then 0 else 1) < 30)) = true := by
    rw [hs]; rfl
  refine (ps_expr (pe_bm (o := o) PySem.F.plainAttrs_list PySem.F.slot_list_append (by rfl) (show MtR X "list.append" rAppend from mt_append) ho (pa_cons h pa_nil hs) hbase hfew hline hs rfl) (by rfl)).imp fun D σ H ⟨env, g, μ, P, r, er, q⟩ => ?_
  refine stE r er q fun w1 g1 v1 H1 μ1 r1 e1 er1 h1 q1 => ?_
  clear q
  split at q1
  · rename_i n ds eg
    have pk := r1.peek h1 eg
    obtain ⟨a0, vs0, rfl, hq0, _⟩ := pk.list
    refine ⟨.inl ⟨rfl, vs0, SqL.of hq0⟩, stE r1 er1 q1 fun w2 g2 v2 H2 μ2 r2 e2 er2 h2 q2 => ?_⟩
    clear q1
    have q3 := st_bind q2
    cases eg2 : give g2 w2 with
    | ok y g3 =>
      rw [eg2] at q3
      replace q3 : SP3 X.K Wx D H2 μ2 P _ := q3
      obtain ⟨μ3, r3, e3, f3⟩ := r2.give h2 eg2
      split at q3
      · rename_i xs eg3
        obtain ⟨a, vs, ea, ha, hH, fv⟩ := r3.at eg3 ((h1.up e2).up e3)
        cases ea
        split at q3
        · rename_i hc
          obtain ⟨rw_, ew⟩ := r3.write (n := n) ha (fv.append (.cons f3 .nil))
          refine ⟨a0, vs, v2, rfl, rfl, hH, by rw [fv.length]; exact decT hc, ?_⟩
          exact (SP3.up ew (SP3.up e3 q3)).here rw_ ((er2.up e3).up ew)
        · exact q3.elim
      · exact q3.elim
    | exc x g3 =>
      exfalso
      cases w2 with
      | d y => cases eg2
      | scr ns => cases eg2
      | ref n => simp only [RF.give] at eg2; split at eg2 <;> cases eg2
    | no => rw [eg2] at q3; exact q3.elim
  · exact q1.elim
/-! ### loops -/
theorem s_for {tgE iter : Expr} {t : Tg} {body : List Stmt} {pos : Pos} {fi : Env → Gs → Out (List D)} {fb F : Env → Gs → OS} (hp : PassesOwn (model X.prog X.w) X.A X.env X.xe) (hc : X.calm = true) (hi : PI X tgE iter (tI X.K Wx fi)) (hg : PG X tgE (tG X.K t)) (hb : PSs X body (tS X.K Wx fb))
    (hs : ∀ x, foldedSetIterable iter X.env x = pure x) (hF : F = fun env g => (fi env g).st env fun xs g1 => forGo (fun x env => bindT t (.d x) env) (fun env g => fb env g) xs env g1) : PS X (.For tgE iter body [] pos) (tS X.K Wx F) := by
  subst hF
  refine (ps_for hp hc hi hg hb hs).imp fun D σ H ⟨env, g, μ, P, r, er, q⟩ => ?_
  refine ⟨env, g, μ, P, r, er, (st_bind q).mono (fun xs g1 q J H1 μ1 r1 e1 gv => ?_) fun _ _ z => z.rx er⟩
  have later : ∀ {H μ g}, Ext H1 μ1 H μ → Rel X.K H μ P g → Later H1 (Ms μ1 P) H (Ms μ P) := fun {H μ g} e r =>
    ⟨e.kp, e.ms, fun a z m => r.out z m⟩
  let Pv : Nat → L2.St → Hp → Prop := fun i σ H => ∃ env g μ, Rel X.K H μ P g ∧ Ext H1 μ1 H μ ∧ ER X.K H μ P σ env ∧ SP3 X.K Wx D H μ P (forGo (fun x env => bindT t (.d x) env) (fun env g => fb env g) (xs.drop i) env g)
  have wk : Walk J xs.length (fun H => ∃ M, Later H1 (Ms μ1 P) H M) (fun i H v H' => J.yld i H v H') :=
    ⟨fun i H hi ⟨M, l⟩ => (gv H M l).1 i hi, fun H ⟨M, l⟩ => (gv H M l).2.1, fun i H x H' _ _ y => y⟩
  refine for_it wk Pv ⟨env, g1, μ1, r1, .refl, er.up e1, by rw [List.drop_zero]; exact SP3.up e1 q⟩ (fun i σ H _ ⟨env, g, μ, r, e, _, _⟩ => ⟨_, later e r⟩) ?_ ?_
  · rintro i x σ H H' hi ⟨env, g, μ, r, e, er, q⟩ y
    obtain ⟨kp, d, hd, fd⟩ := (gv H _ (later e r)).2.2 i x H' hi y
    have r' := r.same kp
    have ek := Ext.same (μ := μ) kp
    have ed : xs.drop i = d :: xs.drop (i + 1) := by
      obtain ⟨h1, h2⟩ := List.getElem?_eq_some_iff.mp hd
      rw [List.drop_eq_getElem_cons h1, h2]
    rw [ed] at q
    unfold forGo at q
    split at q
    · exact q.elim
    · rename_i env1 eb
      refine ⟨env, .d d, g, μ, P, env1, r', er.up ek, fd, eb, fun σ2 er2 _ => ?_⟩
      exact ⟨env1, g, μ, P, r', er2, SP3.seq2 (SP3.up ek q) (nx := Pv (i + 1)) (fun σ' H'' env' g' μ' r'' e'' er'' q' => ⟨env', g', μ', r'', (e.trans ek).trans e'', er'', q'⟩) rfl rfl⟩
  · rintro σ H ⟨env, g, μ, r, e, er, q⟩
    rw [List.drop_length] at q
    exact SP3.here (show SP3 X.K Wx D H μ P (.nx env g) from q) r er
theorem s_whl {c : Expr} {body : List Stmt} {pos : Pos} {fc : Env → Gs → Out Bool} {fb F : Env → Gs → OS} (hp : PassesOwn (model X.prog X.w) X.A X.env X.xe) (hc : PT X c (tT X.K Wx fc)) (hb : PSs X body (tS X.K Wx fb))
    (hF : F = fun env g => whlGo (fun env g => fc env g) (fun env g => fb env g) turns env g) : PS X (.While c body [] pos) (tS X.K Wx F) := by
  subst hF
  refine (ps_while hp hc hb).imp fun D σ H ⟨env, g, μ, P, r, er, q⟩ => ?_
  refine ⟨fun m σ H => ∃ env g μ, Rel X.K H μ P g ∧ ER X.K H μ P σ env ∧ SP3 X.K Wx D H μ P (whlGo (fun env g => fc env g) (fun env g => fb env g) m env g), ⟨turns, env, g, μ, r, er, q⟩, ?_⟩
  rintro m σ H ⟨env, g, μ, r, er, q⟩
  cases m with
  | zero => exact q.elim
  | succ m =>
    unfold whlGo at q
    refine stT r er q fun b g1 H1 μ1 r1 e1 er1 q1 => ?_
    cases b with
    | true =>
      rw [if_pos rfl] at q1
      rw [if_pos rfl]
      refine ⟨fun σ H => ∃ env g μ, Rel X.K H μ P g ∧ ER X.K H μ P σ env ∧ SP3 X.K Wx D H μ P (whlGo (fun env g => fc env g) (fun env g => fb env g) m env g), fun σ' H' h => ⟨m, Nat.lt_succ_self _, h⟩, ?_⟩
      exact ⟨env, g1, μ1, P, r1, er1, SP3.seq2 q1 (fun σ' H' env' g' μ' r' e' er' q' => ⟨env', g', μ', r', er', q'⟩) rfl rfl⟩
    | false =>
      rw [if_neg Bool.false_ne_true] at q1
      rw [if_neg Bool.false_ne_true]
      exact q1.here r1 er1
/-! ### raise -/
theorem s_raise (c : Cok T X k sc N Wx) {x m : Str} {j : Nat} {p p2 cpos pos : Pos} {F : Env → Gs → OS} (hg : sc.names.lookup x = some .globalImplicit) (hx : x ∈ T.excs) (hxn : x ∈ excN) (hdb : (x == ("__debug__" : Str)) = false)
    (hF : F = fun env g => .exc ⟨x, none⟩ env g) : PS X (.Raise (some (.Call (.Name x p) [.Constant (.str m) j p2] [] cpos)) none pos) (tS X.K Wx F) := by
  subst hF
  obtain ⟨h1, h2, h3, h4, h5⟩ := c.g.exc x hx
  refine (L2N.ps_raise c.calm c.tk (L2N.pmk_own PySem.F.excBase_ValueError h2 h1 h3 (raises_own h4 h5) (c.gl hg) hdb)).imp fun D σ H ⟨env, g, μ, P, r, er, q⟩ => ?_
  exact (show PX X.K Wx H μ P ⟨x, none⟩ env g from q) _ _ σ H μ r .refl er ⟨rfl, rfl, rfl, hxn⟩
end RF
end
section
set_option Elab.async false
set_option linter.all false
set_option maxRecDepth 100000
set_option maxHeartbeats 4000000
/-! list(zip(xs, ys)): by the layer. -/
namespace RF
open PySem PySem.Spec PyProof.Rows L2
theorem zip_no_len : typeLookup (.type "zip") "__len__" = pure none := by rw [typeLookup_type, builtinLookup_eq_fast]; kernel_rfl
theorem zip_no_hint : typeLookup (.type "zip") "__length_hint__" = pure none := by rw [typeLookup_type, builtinLookup_eq_fast]; kernel_rfl
/-- a zip over the lists l1, l2 that has given i pairs -/
structure Zs (h : Heap) (z TI TO i1 i2 l1 l2 : Addr) (xs ys : Array Value) (i : Nat) : Prop where
  mkr : IsZip h z TI TO .none ∨ ∃ T f a b, IsZipHeld h z TI TO T f ∧ IsPair h T a b
  tO : ∃ a b, IsPair h TO a b
  tI : IsPair h TI (.ref i1) (.ref i2)
  it1 : h.IsListIter i1 l1 i
  it2 : h.IsListIter i2 l2 i
  ls1 : h.IsList l1 xs
  ls2 : h.IsList l2 ys
theorem Zs.at_ {h h' : Heap} {z TI TO i1 i2 l1 l2 S : Addr} {xs ys : Array Value} {i : Nat} {oS : Obj} (x : Zs h z TI TO i1 i2 l1 l2 xs ys i) (hS : h.get? S = some oS) (hc : oS.cls = .type "list") (nS : S ≠ l1 ∧ S ≠ l2) (k : ∀ b o, b ≠ S → h.get? b = some o → h'.get? b = some o) : Zs h' z TI TO i1 i2 l1 l2 xs ys i := by
  have ne : ∀ {b : Addr} {o : Obj}, h.get? b = some o → o.cls ≠ .type "list" → b ≠ S := fun {b o} e n z => by
    subst z
    rw [hS] at e
    cases e
    exact n hc
  obtain ⟨a0, b0, hTO⟩ := x.tO
  refine ⟨?_, ⟨a0, b0, k _ _ (ne hTO (by simp)) hTO⟩, k _ _ (ne x.tI (by simp)) x.tI, ?_, ?_, x.ls1.at fun o e => k l1 o (fun z => nS.1 z.symm) e, x.ls2.at fun o e => k l2 o (fun z => nS.2 z.symm) e⟩
  · rcases x.mkr with h1 | ⟨T, f, a, b, h1, h2⟩
    · exact .inl (k _ _ (ne h1 (by simp)) h1)
    · exact .inr ⟨T, f, a, b, k _ _ (ne h1 (by simp)) h1, k _ _ (ne h2 (by simp)) h2⟩
  · obtain ⟨o, e, c, d⟩ := id x.it1
    exact x.it1.at fun o' e' => k i1 o' (ne e (by rw [c]; decide)) e'
  · obtain ⟨o, e, c, d⟩ := id x.it2
    exact x.it2.at fun o' e' => k i2 o' (ne e (by rw [c]; decide)) e'
section
variable {prog : Program} {w : World} {A : Around} {E : Value → Shared → Prop} {s : Shared} {z TI TO i1 i2 l1 l2 : Addr} {xs ys : Array Value} {i : Nat}
theorem zs_item {Q : Option Value → Shared → Prop} (D : ZipApart z TI TO i1 i2 l1 l2) (st : Zs s.heap z TI TO i1 i2 l1 l2 xs ys i) {x y : Value} (hx : xs[i]? = some x) (hy : ys[i]? = some y)
    (hQ : ∀ h', Zs h' z TI TO i1 i2 l1 l2 xs ys (i + 1) → IsPair h' s.heap.objs.size x y → h'.objs.size = s.heap.objs.size + 1 → (∀ c o, c ≠ z → c ≠ TO → c ≠ i1 → c ≠ i2 → s.heap.get? c = some o → h'.get? c = some o) → Q (some (.ref s.heap.objs.size)) { s with heap := h' }) :
    wpAny (model prog w) A (pyNext (.ref z)) Q E s := by
  obtain ⟨a0, b0, hTO⟩ := st.tO
  rcases st.mkr with h1 | ⟨T, f, a, b, h1, h2⟩
  · refine wpAny_pyNext_zip_item D h1 st.tI hTO st.it1 st.it2 st.ls1 st.ls2 hx hy fun h' a1 a2 a3 a4 a5 a6 hk => hQ h' ⟨.inr ⟨_, false, x, y, a1, a5⟩, ⟨x, y, a2⟩, hk _ _ D.TIz D.TITO D.TIi1 D.TIi2 st.tI, a3, a4, ?_, ?_⟩ a5 a6 hk
    · exact st.ls1.at fun o e => hk _ o D.l1z D.l1TO D.l1i1 D.l1i2 e
    · exact st.ls2.at fun o e => hk _ o D.l2z D.l2TO D.l2i1 D.l2i2 e
  · refine wpAny_pyNext_zip_item_held D h1 h2 st.tI st.it1 st.it2 st.ls1 st.ls2 hx hy fun h' a1 a3 a4 a5 a6 hk => hQ h' ⟨.inr ⟨T, true, a, b, a1, hk T _ ?_ ?_ ?_ h2⟩, ⟨a0, b0, hk TO _ D.TOz D.TOi1 D.TOi2 hTO⟩, hk _ _ D.TIz D.TIi1 D.TIi2 st.tI, a3, a4, ?_, ?_⟩ a5 a6 fun c o c1 _ c3 c4 e => hk c o c1 c3 c4 e
    · intro q; subst q; have q2 := h1.symm.trans h2; simp at q2
    · intro q; subst q
      obtain ⟨o, e, c, _⟩ := id st.it1
      rw [h2] at e; cases e; exact absurd (Value.type.inj c) (by decide)
    · intro q; subst q
      obtain ⟨o, e, c, _⟩ := id st.it2
      rw [h2] at e; cases e; exact absurd (Value.type.inj c) (by decide)
    · exact st.ls1.at fun o e => hk _ o D.l1z D.l1i1 D.l1i2 e
    · exact st.ls2.at fun o e => hk _ o D.l2z D.l2i1 D.l2i2 e
theorem zs_end {Q : Option Value → Shared → Prop} (hh : A.handled = none) (D : ZipApart z TI TO i1 i2 l1 l2) (st : Zs s.heap z TI TO i1 i2 l1 l2 xs ys i) (hend : xs[i]? = none ∨ ys[i]? = none)
    (hQ : ∀ h', (∀ c o, c ≠ z → c ≠ TO → c ≠ i1 → c ≠ i2 → s.heap.get? c = some o → h'.get? c = some o) → Q none { s with heap := h' }) : wpAny (model prog w) A (pyNext (.ref z)) Q E s := by
  obtain ⟨a0, b0, hTO⟩ := st.tO
  rcases st.mkr with h1 | ⟨T, f, a, b, h1, h2⟩
  · exact wpAny_pyNext_zip_end hh D h1 st.tI hTO st.it1 st.it2 st.ls1 st.ls2 hend hQ
  · exact wpAny_pyNext_zip_end_held hh D h1 h2 st.tI st.it1 st.it2 st.ls1 st.ls2 hend fun h' hk => hQ h' fun c o c1 _ c3 c4 e => hk c o c1 c3 c4 e
/-- the pairs so far -/
def Acc (h : Heap) (S z TO i1 i2 : Addr) (xs ys acc : Array Value) (i : Nat) : Prop := (acc.size = i ∧ ∀ (j : Nat) v, acc[j]? = some v → ∃ T x y, v = .ref T ∧ (T ≠ S ∧ T ≠ z ∧ T ≠ TO ∧ T ≠ i1 ∧ T ≠ i2) ∧ IsPair h T x y ∧ xs[j]? = some x ∧ ys[j]? = some y) ∧ acc.toList.Nodup ∧ ∀ T, Value.ref T ∈ acc.toList → S < T
theorem zip_loop {R : Result → Shared → Prop} (hh : A.handled = none) (D : ZipApart z TI TO i1 i2 l1 l2) (S : Addr) (nS : S ≠ z ∧ S ≠ TO ∧ S ≠ i1 ∧ S ≠ i2 ∧ S ≠ l1 ∧ S ≠ l2) (res : Value) (few : min xs.size ys.size ≤ sizeLine) :
    ∀ (k i : Nat) (s : Shared) (acc : Array Value) (c : Nat), min xs.size ys.size - i = k → i ≤ min xs.size ys.size → Zs s.heap z TI TO i1 i2 l1 l2 xs ys i → s.heap.get? S = some { cls := .type "list", dict := none, data := .seq acc c, slots := #[] } → Acc s.heap S z TO i1 i2 xs ys acc i →
      (∀ h' acc' c', (∀ b o, b ≠ S → b ≠ z → b ≠ TO → b ≠ i1 → b ≠ i2 → s.heap.get? b = some o → h'.get? b = some o) → h'.get? S = some { cls := .type "list", dict := none, data := .seq acc' c', slots := #[] } → Acc h' S z TO i1 i2 xs ys acc' (min xs.size ys.size) → R (.ok (.ret res)) { s with heap := h' }) →
      codeAny (model prog w) A (.builtin "list.extend.loop" ⟨[.ref S, .ref z, res], []⟩) R s := by
  obtain ⟨n1, n2, n3, n4, n5, n6⟩ := nS
  have hh1 : A.in1.handled = none := hh
  intro k
  induction k with
  | zero =>
    intro i s acc c hk hi st hS ha hR
    have e : i = min xs.size ys.size := by omega
    refine codeAny_builtin F.entry_extend_loop ?_
    rw [Around.under_plainId F.plain_extend_loop _]
    show wpAny _ A.in1 (pyNext (.ref z) >>= _) _ _ s
    have hend : xs[i]? = none ∨ ys[i]? = none := by
      rw [e]
      rcases Nat.le_total xs.size ys.size with h | h
      · exact .inl (by rw [Nat.min_eq_left h]; exact Array.getElem?_eq_none (Nat.le_refl _))
      · exact .inr (by rw [Nat.min_eq_right h]; exact Array.getElem?_eq_none (Nat.le_refl _))
    refine wpAny_bind (zs_end hh1 D st hend fun h' kp => ?_)
    refine wpAny_pure (hR h' acc c (fun b o _ c1 c2 c3 c4 q => kp b o c1 c2 c3 c4 q) (kp S _ n1 n2 n3 n4 hS) ⟨⟨by rw [ha.1.1, e], fun j v hj => ?_⟩, ha.2⟩)
    obtain ⟨T, x, y, rfl, ⟨t1, t2, t3, t4, t5⟩, q1, q2⟩ := ha.1.2 j v hj
    exact ⟨T, x, y, rfl, ⟨t1, t2, t3, t4, t5⟩, kp T _ t2 t3 t4 t5 q1, q2⟩
  | succ k ih =>
    intro i s acc c hk hi st hS ha hR
    have hlt : i < min xs.size ys.size := by omega
    have hx : i < xs.size := Nat.lt_of_lt_of_le hlt (Nat.min_le_left ..)
    have hy : i < ys.size := Nat.lt_of_lt_of_le hlt (Nat.min_le_right ..)
    refine codeAny_builtin F.entry_extend_loop ?_
    rw [Around.under_plainId F.plain_extend_loop _]
    show wpAny _ A.in1 (pyNext (.ref z) >>= _) _ _ s
    refine wpAny_bind (zs_item D st (Array.getElem?_eq_getElem hx) (Array.getElem?_eq_getElem hy) fun h' st' hp hz kp => ?_)
    have hS' := kp S _ n1 n2 n3 n4 hS
    show wpAny _ A.in1 (updateSeq S (·.push (.ref s.heap.objs.size)) >>= _) _ _ _
    refine wpAny_bind ?_
    have lt : ∀ {c : Addr} {o : Obj}, s.heap.get? c = some o → s.heap.objs.size ≠ c := fun e => Nat.ne_of_gt (Heap.lt_size e)
    have zne : s.heap.objs.size ≠ z := by rcases st.mkr with h1 | ⟨_, _, _, _, h1, _⟩ <;> exact lt h1
    have i1ne : s.heap.objs.size ≠ i1 := by obtain ⟨_, e, _⟩ := st.it1; exact lt e
    have i2ne : s.heap.objs.size ≠ i2 := by obtain ⟨_, e, _⟩ := st.it2; exact lt e
    have oth : ∀ b o, b ≠ S → h'.get? b = some o → (h'.update S (Obj.mapSeq (·.push (.ref s.heap.objs.size)))).get? b = some o := fun b o hb e => (Heap.get?_update_other _ _ (Ne.symm hb)).trans e
    have TOne : s.heap.objs.size ≠ TO := by obtain ⟨_, _, e⟩ := st.tO; exact lt e
    refine wpAny_updateSeq hS' rfl (wpAny_pure ⟨plainId_quiet F.plain_extend_loop _, ih (i + 1) _ (acc.push (.ref s.heap.objs.size)) _ (by omega) hlt (st'.at_ hS' rfl ⟨n5, n6⟩ oth) (Heap.get?_update_self _ hS' rfl) ⟨⟨by rw [Array.size_push, ha.1.1], fun j v hj => ?_⟩, ?_, ?_⟩ fun h2 acc' c' kp2 hS2 ha2 => ?_⟩)
      (by rw [ha.1.1]; omega) (by show (acc.push _).size ≤ sizeLine + 1; rw [Array.size_push, ha.1.1]; omega)
    · by_cases hj2 : j < acc.size
      · rw [Array.getElem?_push_lt hj2] at hj
        obtain ⟨T, x, y, rfl, ⟨t1, t2, t3, t4, t5⟩, q1, q2⟩ := ha.1.2 j v (by rw [← hj, Array.getElem?_eq_getElem hj2])
        exact ⟨T, x, y, rfl, ⟨t1, t2, t3, t4, t5⟩, oth T _ t1 (kp T _ t2 t3 t4 t5 q1), q2⟩
      · have e2 : j = acc.size := by
          have := (Array.getElem?_eq_some_iff.mp hj).1
          rw [Array.size_push] at this
          omega
        subst e2
        rw [Array.getElem?_push_size] at hj
        cases hj
        rw [ha.1.1]
        exact ⟨s.heap.objs.size, _, _, rfl, ⟨lt hS, zne, TOne, i1ne, i2ne⟩, oth _ _ (lt hS) hp, Array.getElem?_eq_getElem hx, Array.getElem?_eq_getElem hy⟩
    · rw [Array.toList_push]
      refine List.nodup_append.mpr ⟨ha.2.1, by simp, fun v hv u hu q => ?_⟩
      have e1 : u = .ref s.heap.objs.size := by simpa using hu
      subst e1
      subst q
      obtain ⟨j, hj⟩ := List.mem_iff_getElem?.mp hv
      obtain ⟨T, x, y, e2, _, q1, _⟩ := ha.1.2 j _ (by rw [← Array.getElem?_toList]; exact hj)
      cases e2
      exact lt q1 rfl
    · intro T hT
      rw [Array.toList_push] at hT
      rcases List.mem_append.mp hT with hT | hT
      · exact ha.2.2 T hT
      · have e1 : T = s.heap.objs.size := by simpa using hT
        rw [e1]
        exact Heap.lt_size hS
    · exact hR h2 acc' c' (fun b o b1 b2 b3 b4 b5 e => kp2 b o b1 b2 b3 b4 b5 (oth b o b1 (kp b o b2 b3 b4 b5 e))) hS2 ha2
end
section
variable {prog : Program} {w : World} {A : Around} {E : Value → Shared → Prop} {s : Shared} {z TI TO i1 i2 l1 l2 : Addr} {xs ys : Array Value}
theorem zip_extend {R : Result → Shared → Prop} (hh : A.handled = none) (D : ZipApart z TI TO i1 i2 l1 l2) (S : Addr) (nS : S ≠ z ∧ S ≠ TO ∧ S ≠ i1 ∧ S ≠ i2 ∧ S ≠ l1 ∧ S ≠ l2) (res : Value) (c₀ : Nat) (hz : IsZip s.heap z TI TO .none) (st : Zs s.heap z TI TO i1 i2 l1 l2 xs ys 0)
    (few : min xs.size ys.size ≤ sizeLine) (hS : s.heap.get? S = some { cls := .type "list", data := .seq #[] c₀ })
    (hR : ∀ h' acc' c', (∀ b o, b ≠ S → b ≠ z → b ≠ TO → b ≠ i1 → b ≠ i2 → s.heap.get? b = some o → h'.get? b = some o) → h'.get? S = some { cls := .type "list", dict := none, data := .seq acc' c', slots := #[] } → Acc h' S z TO i1 i2 xs ys acc' (min xs.size ys.size) → R (.ok (.ret res)) { s with heap := h' }) :
    wpAny (model prog w) A.in1 (Builtin.List.listExtendWith (.ref S) (.ref z) res)
      (fun fin s' => match fin with | .done f => R (.ok f) s' | .again c' => c'.quiet = true ∧ codeAny (model prog w) A c' R s') (fun e s' => R (.error e) s') s := by
  have hSI : S ≠ z := nS.1
  have tz : s.TypeIs (.ref z) "zip" := ⟨_, hz, rfl⟩
  unfold Builtin.List.listExtendWith
  refine wpAny_bind (wpAny_typeOf tz ?_)
  have h1 : Builtin.List.listSameRef (.ref S) (.ref z) = false := by simp [Builtin.List.listSameRef, hSI]
  have h2 : (Value.type "zip" == Value.type "list") = false := by decide
  have h3 : (Value.type "zip" == Value.type "tuple") = false := by decide
  simp only [h1, h2, h3, Bool.or_false, Bool.false_eq_true, if_false]
  refine wpAny_bind (wpAny_pyIter_zip hz ?_)
  refine wpAny_bind (wpAny_holding ?_)
  unfold Builtin.List.listLengthHint
  refine wpAny_bind (wpAny_specialOf tz zip_no_len ?_)
  show wpAny _ A.in1 (specialOf (Value.ref z) (Str.ofString "__length_hint__") >>= _) _ _ _
  refine wpAny_bind (wpAny_specialOf tz zip_no_hint ?_)
  refine wpAny_pure ?_
  show wpAny _ A.in1 (rule "list.extend.makes-room" >>= fun _ => Builtin.List.listTouch (.ref S) >>= fun _ =>
    again (.builtin "list.extend.loop" ⟨[.ref S, .ref z, res], []⟩)) _ _ _
  refine wpAny_bind (wpAny_rule ?_)
  refine wpAny_bind ?_
  show wpAny _ A.in1 (updateSeq S (·.push .none) >>= fun _ => updateSeq S (·.pop)) _ _ _
  refine wpAny_bind (wpAny_updateSeq hS rfl ?_)
  have hS₂ := Heap.get?_update_self (Obj.mapSeq (·.push Value.none)) hS rfl
  refine wpAny_updateSeq (hz := by seq_fits) hS₂ rfl ?_
  have hS₃ := Heap.get?_update_self (Obj.mapSeq (·.pop)) hS₂ rfl
  have oth : ∀ b o, b ≠ S → s.heap.get? b = some o → ((s.heap.update S (Obj.mapSeq (·.push Value.none))).update S (Obj.mapSeq (·.pop))).get? b = some o :=
    fun b o hb e => (Heap.get?_update_other _ _ (Ne.symm hb)).trans ((Heap.get?_update_other _ _ (Ne.symm hb)).trans e)
  refine wpAny_pure ⟨plainId_quiet F.plain_extend_loop _, zip_loop hh D S nS res few _ 0 _ _ _ rfl (Nat.zero_le _) (st.at_ hS rfl ⟨nS.2.2.2.2.1, nS.2.2.2.2.2⟩ oth) hS₃ ⟨⟨rfl, fun j v hj => ?_⟩, by simp, by simp⟩ fun h' acc' c' kp hS' ha => ?_⟩
  · simp at hj
  · exact hR h' acc' c' (fun b o b1 b2 b3 b4 b5 e => kp b o b1 b2 b3 b4 b5 (oth b o b1 e)) hS' ha
theorem zip_init {R : Result → Shared → Prop} (hh : A.handled = none) (D : ZipApart z TI TO i1 i2 l1 l2) (S : Addr) (nS : S ≠ z ∧ S ≠ TO ∧ S ≠ i1 ∧ S ≠ i2 ∧ S ≠ l1 ∧ S ≠ l2) (hz : IsZip s.heap z TI TO .none) (st : Zs s.heap z TI TO i1 i2 l1 l2 xs ys 0)
    (few : min xs.size ys.size ≤ sizeLine) (hS : s.heap.get? S = some { cls := .type "list", data := .seq #[] })
    (hR : ∀ h' acc' c', (∀ b o, b ≠ S → b ≠ z → b ≠ TO → b ≠ i1 → b ≠ i2 → s.heap.get? b = some o → h'.get? b = some o) → h'.get? S = some { cls := .type "list", dict := none, data := .seq acc' c', slots := #[] } → Acc h' S z TO i1 i2 xs ys acc' (min xs.size ys.size) → R (.ok (.ret .none)) { s with heap := h' }) :
    wpAny (model prog w) A.in1 (Builtin.«list.__init__» ⟨[.ref S, .ref z], []⟩)
      (fun fin s' => match fin with | .done f => R (.ok f) s' | .again c' => c'.quiet = true ∧ codeAny (model prog w) A c' R s') (fun e s' => R (.error e) s') s := by
  show wpAny _ A.in1 (do let old ← Builtin.List.listItems (.ref S); Builtin.List.listUpdate (.ref S) (fun _ => #[]); letGo old.toList.reverse; Builtin.List.listExtendWith (.ref S) (.ref z) .none) _ _ s
  refine wpAny_bind ?_
  unfold Builtin.List.listItems
  refine wpAny_bind (wpAny_seqItems hS rfl (wpAny_pure ?_))
  show wpAny _ A.in1 (updateSeq S (fun _ => #[]) >>= fun _ => letGo (#[] : Array Value).toList.reverse >>= fun _ => Builtin.List.listExtendWith (.ref S) (.ref z) .none) _ _ s
  refine wpAny_bind (wpAny_updateSeq hS rfl ?_)
  have hS₂ := Heap.get?_update_self (Obj.mapSeq (fun _ => (#[] : Array Value))) hS rfl
  have oth : ∀ b o, b ≠ S → s.heap.get? b = some o → (s.heap.update S (Obj.mapSeq (fun _ => (#[] : Array Value)))).get? b = some o :=
    fun b o hb e => (Heap.get?_update_other _ _ (Ne.symm hb)).trans e
  refine wpAny_bind (wpAny_letGo ?_)
  exact zip_extend hh D S nS .none _ (oth z _ (Ne.symm nS.1) hz) (st.at_ hS rfl ⟨nS.2.2.2.2.1, nS.2.2.2.2.2⟩ oth) few hS₂ fun h' acc' c' kp hS' ha => hR h' acc' c' (fun b o b1 b2 b3 b4 b5 e => kp b o b1 b2 b3 b4 b5 (oth b o b1 e)) hS' ha
theorem list_zip {Q : Value → Shared → Prop} (hh : A.handled = none) (D : ZipApart z TI TO i1 i2 l1 l2) (hz : IsZip s.heap z TI TO .none) (st : Zs s.heap z TI TO i1 i2 l1 l2 xs ys 0) (few : min xs.size ys.size ≤ sizeLine)
    (hQ : ∀ h' acc c, (∀ b o, b ≠ z → b ≠ TO → b ≠ i1 → b ≠ i2 → s.heap.get? b = some o → h'.get? b = some o) → h'.get? s.heap.objs.size = some { cls := .type "list", dict := none, data := .seq acc c, slots := #[] } →
      Acc h' s.heap.objs.size z TO i1 i2 xs ys acc (min xs.size ys.size) → Q (.ref s.heap.objs.size) { s with heap := h' }) : wpAny (model prog w) A (call (.type "list") [.ref z]) Q E s := by
  have lt : ∀ {c : Addr} {o : Obj}, s.heap.get? c = some o → s.heap.objs.size ≠ c := fun e => Nat.ne_of_gt (Heap.lt_size e)
  have nS : s.heap.objs.size ≠ z ∧ s.heap.objs.size ≠ TO ∧ s.heap.objs.size ≠ i1 ∧ s.heap.objs.size ≠ i2 ∧ s.heap.objs.size ≠ l1 ∧ s.heap.objs.size ≠ l2 := by
    obtain ⟨_, _, e1⟩ := st.tO
    obtain ⟨_, e2, _⟩ := st.it1
    obtain ⟨_, e3, _⟩ := st.it2
    obtain ⟨_, e4, _⟩ := st.ls1
    obtain ⟨_, e5, _⟩ := st.ls2
    exact ⟨lt hz, lt e1, lt e2, lt e3, lt e4, lt e5⟩
  refine callType_codes (Q₁ := fun obj s₁ => obj = .ref s.heap.objs.size ∧ s₁ = { s with heap := s.heap.push { cls := .type "list", data := .seq #[] } }) F.called_list (F.typeCall_list_1 _) F.entry_list_init
    (code_list_new _ ⟨rfl, rfl⟩) fun obj s₁ h₁ => ?_
  obtain ⟨rfl, rfl⟩ := h₁
  have hS : (s.heap.push { cls := .type "list", data := .seq #[] }).get? s.heap.objs.size = some { cls := .type "list", data := .seq #[] } := Heap.get?_push_size _ rfl
  have push : ∀ b o, s.heap.get? b = some o → (s.heap.push { cls := .type "list", data := .seq #[] }).get? b = some o := fun b o e => Heap.get?_push_of_some _ e
  have st2 : Zs (s.heap.push { cls := .type "list", data := .seq #[] }) z TI TO i1 i2 l1 l2 xs ys 0 := by
    obtain ⟨a0, b0, e⟩ := st.tO
    exact ⟨.inl (push _ _ hz), ⟨a0, b0, push _ _ e⟩, push _ _ st.tI, st.it1.at fun o e => push _ o e, st.it2.at fun o e => push _ o e, st.ls1.at fun o e => push _ o e, st.ls2.at fun o e => push _ o e⟩
  refine ⟨⟨_, hS, rfl⟩, F.args_list_init_2 _ _, zip_init (A := A.in1) hh D _ nS (push _ _ hz) st2 few hS fun h' acc' c' kp hS' ha => ?_⟩
  exact ⟨rfl, hQ h' acc' c' (fun b o b2 b3 b4 b5 e => kp b o (lt e).symm b2 b3 b4 b5 (push b o e)) hS' ha⟩
end
end RF
end
section
set_option Elab.async false
set_option linter.all false
set_option maxRecDepth 100000
set_option maxHeartbeats 4000000
/-! list(zip(a, b)) read. -/
namespace RF
open PySem PySem.Spec PyProof.Rows L2
/-- several new objects at once -/
theorem inv_lays {X : Cx} {pins : List (Addr × Obj)} {σ : L2.St} {H H' : Hp} {s : Shared} {h' : Heap} (I : Inv X pins σ H s) (k : ∀ b u, s.heap.get? b = some u → h'.get? b = some u) (old : ∀ b u, H b = some u → H' b = some u)
    (new : ∀ b u, H' b = some u → H b = some u ∨ (s.heap.objs.size ≤ b ∧ ObjOk X.prog X.w H' h' b u)) : Inv X pins σ H' { s with heap := h' } := by
  refine I.un (t' := s.toks) ⟨fun b o e _ _ _ => k b o e, fun b o e _ _ _ => ⟨o.slots, k b o e⟩, fun b o e n _ => ?_, fun b o e _ => ⟨o, k b o e⟩, fun b xs e => old b _ e, fun b o u e => old b _ e, fun b ps e => ⟨#[], by rw [old b _ e]; simp⟩⟩ fun b u e => ?_
  · cases q : H' b with
    | none => rfl
    | some u =>
      rcases new b u q with z | ⟨z, _⟩
      · rw [n] at z; cases z
      · exact absurd (Heap.lt_size e) (Nat.not_lt.mpr z)
  · rcases new b u e with z | ⟨_, z⟩
    · exact (I.hok b u z).stay (fun c v _ q => k c v q) (fun c q => old _ _ q) fun c xs q => old _ _ q
    · exact z
def layP (H : Hp) : List (Addr × V × V) → Hp
  | [] => H
  | p :: r => upd (layP H r) p.1 (.tup [p.2.1, p.2.2])
theorem layP_old {H : Hp} : ∀ {l : List (Addr × V × V)} {b : Addr} {u : HO}, (∀ p ∈ l, H p.1 = none) → H b = some u → layP H l b = some u
  | [], _, _, _, e => e
  | p :: r, b, u, n, e => by
    have ne : b ≠ p.1 := fun z => by rw [z, n p List.mem_cons_self] at e; cases e
    show upd (layP H r) p.1 _ b = _
    rw [upd_ne ne]
    exact layP_old (fun q hq => n q (List.mem_cons_of_mem _ hq)) e
theorem layP_new {H : Hp} : ∀ {l : List (Addr × V × V)} {b : Addr} {u : HO}, layP H l b = some u → H b = some u ∨ ∃ p ∈ l, b = p.1 ∧ u = .tup [p.2.1, p.2.2]
  | [], _, _, e => .inl e
  | p :: r, b, u, e => by
    by_cases hb : b = p.1
    · subst hb
      have e : upd (layP H r) p.1 (.tup [p.2.1, p.2.2]) p.1 = some u := e
      rw [upd_same] at e
      cases e
      exact .inr ⟨p, List.mem_cons_self, rfl, rfl⟩
    · have e : upd (layP H r) p.1 (.tup [p.2.1, p.2.2]) b = some u := e
      rw [upd_ne hb] at e
      exact (layP_new e).imp id fun ⟨q, hq, z⟩ => ⟨q, List.mem_cons_of_mem _ hq, z⟩
theorem layP_at {H : Hp} : ∀ {l : List (Addr × V × V)}, (l.map (·.1)).Nodup → ∀ p ∈ l, layP H l p.1 = some (.tup [p.2.1, p.2.2])
  | q :: r, nd, p, hp => by
    have nd' := List.nodup_cons.mp nd
    show upd (layP H r) q.1 _ p.1 = _
    rcases List.mem_cons.mp hp with e | hp
    · subst e; exact upd_same
    · have ne : p.1 ≠ q.1 := fun z => nd'.1 (show q.1 ∈ r.map (·.1) by rw [← z]; exact List.mem_map_of_mem hp)
      rw [upd_ne ne]
      exact layP_at nd'.2 p hp
theorem vals_at : ∀ {vs : List V} {us : List Value}, Vals vs us → ∀ {i : Nat} {u : Value}, us[i]? = some u → ∃ v, vs[i]? = some v ∧ RelV v u
  | _, _, .nil, i, u, h => by cases h
  | _, _, .cons r t, 0, u, h => by cases h; exact ⟨_, rfl, r⟩
  | _, _, .cons r t, i + 1, u, h => vals_at t h
/-- the pairs with their abstract parts -/
theorem pairs_of {h : Heap} {xs ys : List Value} {vx vy : List V} (rx : Vals vx xs) (ry : Vals vy ys) : ∀ (acc : List Value) (i : Nat), (∀ (j : Nat) v, acc[j]? = some v → ∃ T x y, v = .ref T ∧ IsPair h T x y ∧ xs[i + j]? = some x ∧ ys[i + j]? = some y) →
    ∃ l : List (Addr × V × V), acc = l.map (fun p => Value.ref p.1) ∧ ∀ (j : Nat) p, l[j]? = some p → vx[i + j]? = some p.2.1 ∧ vy[i + j]? = some p.2.2 ∧ ∃ x y, RelV p.2.1 x ∧ RelV p.2.2 y ∧ IsPair h p.1 x y
  | [], _, _ => ⟨[], rfl, fun _ _ h => by cases h⟩
  | a :: acc, i, hA => by
    obtain ⟨T, x, y, rfl, q, h1, h2⟩ := hA 0 a rfl
    obtain ⟨v1, e1, r1⟩ := vals_at rx h1
    obtain ⟨v2, e2, r2⟩ := vals_at ry h2
    obtain ⟨l, el, hl⟩ := pairs_of rx ry acc (i + 1) fun j v hj => by
      have := hA (j + 1) v hj
      rw [show i + (j + 1) = i + 1 + j by omega] at this
      exact this
    refine ⟨(T, v1, v2) :: l, by rw [el]; rfl, fun j p hj => ?_⟩
    cases j with
    | zero =>
      cases hj
      exact ⟨e1, e2, x, y, r1, r2, q⟩
    | succ j =>
      have := hl j p hj
      rw [show i + 1 + j = i + (j + 1) by omega] at this
      exact this
theorem fz_zip {K : PySem.W.Frag} {H : Hp} {M : Addr → Prop} : ∀ {l : List (Addr × V × V)} {dx dy : List D} {vx vy : List V}, FzAll K H M vx dx → FzAll K H M vy dy → l.length = min vx.length vy.length → (∀ (j : Nat) p, l[j]? = some p → vx[j]? = some p.2.1 ∧ vy[j]? = some p.2.2) →
    (∀ p ∈ l, H p.1 = some (.tup [p.2.1, p.2.2]) ∧ ¬ M p.1) → FzAll K H M (l.map fun p => V.ref p.1) ((dx.zip dy).map fun q => .tuple [q.1, q.2])
  | [], dx, dy, vx, vy, fx, fy, hl, _, _ => by
    have h1 := fx.length
    have h2 := fy.length
    have : (dx.zip dy) = [] := List.eq_nil_of_length_eq_zero (by rw [List.length_zip]; simp at hl; omega)
    rw [this]
    exact .nil
  | p :: l, [], dy, vx, vy, fx, fy, hl, _, _ => by
    have h1 := fx.length
    simp at hl h1
    rw [h1] at hl
    simp at hl
  | p :: l, x :: dx, [], vx, vy, fx, fy, hl, _, _ => by
    have h1 := fy.length
    simp at hl h1
    rw [h1] at hl
    simp at hl
  | p :: l, x :: dx, y :: dy, _, _, fx, fy, hl, hj, hp => by
    cases fx with
    | @cons v vx _ _ f1 fx =>
      cases fy with
      | @cons u vy _ _ f2 fy =>
        obtain ⟨e1, e2⟩ := hj 0 p rfl
        have e1 : v = p.2.1 := by simpa using e1
        have e2 : u = p.2.2 := by simpa using e2
        subst e1 e2
        obtain ⟨q1, q2⟩ := hp p List.mem_cons_self
        refine .cons (.tup q1 q2 (.cons f1 (.cons f2 .nil))) ?_
        exact fz_zip fx fy (by simp at hl; omega) (fun j q h => by have := hj (j + 1) q h; simpa using this) fun q hq => hp q (List.mem_cons_of_mem _ hq)
theorem vals_refs : ∀ l : List (Addr × V × V), Vals (l.map fun p => V.ref p.1) (l.map fun p => Value.ref p.1)
  | [] => .nil
  | p :: l => .cons rfl (vals_refs l)
theorem se_lzip {X : Cx} {Wx : WX} {T : Tab} {k : Nat} {sc : Scope} {N : List Str} (c : Cok T X k sc N Wx) {p p2 pos pos2 : Pos} {a b : Expr} {fs : Env → Gs → Out (List W)} {F : Env → Gs → Out W} (hg : sc.names.lookup ("list" : Str) = some .globalImplicit) (hfr : ("list" : Str) ∈ T.free)
    (hg2 : sc.names.lookup ("zip" : Str) = some .globalImplicit) (hfr2 : ("zip" : Str) ∈ T.free) (hst : ([a, b] : List Expr).all notStar = true) (ha : PA X [a, b] (tA X.K Wx fs))
    (hF : F = fun env g => (fs env g).bind fun ws g1 => (Out.ofO g1 (peeks g1 ws)).bind fun xs _ => biW .listZip g1 xs) : PE X (.Call (.Name "list" p) [.Call (.Name "zip" p2) [a, b] [] pos2] [] pos) (tE X.K Wx F) := by
  subst hF
  refine ⟨fun pins s σ H Q I q => ?_⟩
  have hA : tA X.K Wx fs σ H (fun vs H1 => rBi X.K .listZip vs H1 Q) := bi_core (b := .listZip) q
  obtain ⟨s1, s2⟩ := stars_plain (pos := pos2) (env := X.env) hst
  refine wpAny_Call_Name_kw (ld_blt I (c.gl hg) (c.g.free _ hfr) (show bootBuiltins "list" = some (.type "list") by decide +kernel) ?_)
  refine PyProof.Rows.callWith_type1 (args_cons ?_ rfl) rfl rfl
  refine wpAny_Call_Name_kw (ld_blt I (c.gl hg2) (c.g.free _ hfr2) PyProof.Rows.boot_zip ?_)
  refine PyProof.Rows.callWith_type1 (thn (ha.run pos2 pins s σ H _ I hA) fun us s1 ⟨vs, H1, I1, r1, q1⟩ => ?_) s1 s2
  obtain ⟨g, μ, P, xs, w, g', r, hp, e, po⟩ := q1
  obtain ⟨z, ez, hz⟩ := biW_of e
  rcases xs with _ | ⟨x, _ | ⟨y, _ | ⟨t0, t⟩⟩⟩
  · cases ez
  · cases x <;> cases ez
  · obtain ⟨v, u, rfl, hv, hu⟩ := pk2 hp
    cases x <;> cases y <;> first
      | (cases ez; done)
      | skip
    case list.list dx dy =>
      cases ez
      obtain ⟨l1, vx, rfl, hq1, fx⟩ := hv.list
      obtain ⟨l2, vy, rfl, hq2, fy⟩ := hu.list
      cases r1 with
      | cons ra rr =>
        cases rr with
        | cons rb rr =>
          cases rr
          cases ra
          cases rb
          obtain ⟨its, rv, pl, hn1⟩ := I1.list (SqL.of hq1)
          obtain ⟨its2, rv2, pl2, hn2⟩ := I1.list (SqL.of hq2)
          have lv := rv.length
          have lv2 := rv2.length
          refine call_zip_2 pl.isList pl2.isList fun h' hz' hTI hTO h1 h2 hsz hk => args_nil ?_
          have D := PySem.W.ktu_apart s1.heap.objs.size l1 l2 pl.lt pl2.lt
          refine list_zip (xs := its.toArray) (ys := its2.toArray) (I1.ok.hd c.calm) D hz' ⟨.inl hz', ⟨_, _, hTO⟩, hTI, h1, h2, pl.isList.at fun o e => hk _ o e, pl2.isList.at fun o e => hk _ o e⟩ (by simp only [List.size_toArray]; omega) fun h2' acc cc kp hS ha => ?_
          obtain ⟨l, el, hl⟩ := pairs_of rv rv2 acc.toList 0 fun j v hj => by
            obtain ⟨T, x, y, e1, _, e2, e3, e4⟩ := ha.1.2 j v (by rw [← Array.getElem?_toList]; exact hj)
            exact ⟨T, x, y, e1, e2, by rw [Nat.zero_add]; simpa using e3, by rw [Nat.zero_add]; simpa using e4⟩
          have far : ∀ q ∈ l, h'.objs.size < q.1 := fun q hq => ha.2.2 q.1 (by rw [el]; exact List.mem_map.mpr ⟨q, hq, rfl⟩)
          have fr : ∀ b, s1.heap.objs.size ≤ b → H1 b = none := fun b hb => I1.hok.fresh hb
          have frl : ∀ q ∈ l, H1 q.1 = none := fun q hq => fr _ (by have := far q hq; omega)
          have nd : (l.map (·.1)).Nodup := by
            have := ha.2.1
            rw [el] at this
            rw [show l.map (fun p => Value.ref p.1) = (l.map (·.1)).map Value.ref by rw [List.map_map]; rfl] at this
            exact List.Pairwise.of_map Value.ref (fun a b h z => h (by rw [z])) this
          have ll : l.length = min vx.length vy.length := by
            have h1 := ha.1.1
            have h2 : acc.toList.length = l.length := by rw [el, List.length_map]
            rw [Array.length_toList] at h2
            simp only [List.size_toArray] at h1
            omega
          have k1 : ∀ b o, s1.heap.get? b = some o → h2'.get? b = some o := fun b o e => by
            have hb : b < s1.heap.objs.size := Heap.lt_size e
            exact kp b o (Nat.ne_of_lt (Nat.lt_of_lt_of_le hb (Nat.le_add_right _ _))) (Nat.ne_of_lt (Nat.lt_of_lt_of_le hb (Nat.le_add_right _ _))) (Nat.ne_of_lt hb) (Nat.ne_of_lt (Nat.lt_of_lt_of_le hb (Nat.le_add_right _ _))) (hk b o e)
          have old : ∀ b u, H1 b = some u → layP H1 l b = some u := fun b u e => layP_old frl e
          have nS : layP H1 l h'.objs.size = none := by
            cases q : layP H1 l h'.objs.size with
            | none => rfl
            | some u =>
              rcases layP_new q with z | ⟨p0, hp0, z, _⟩
              · rw [fr _ (by omega)] at z; cases z
              · exact absurd z (Nat.ne_of_lt (far p0 hp0))
          have rm := r.same old
          have pm : Post X.K (layP H1 l) μ P Q w g' := Post.up (Ext.same old) po
          have fz := fz_zip (l := l) ((fx.up (Ext.same old))) ((fy.up (Ext.same old))) ll (fun j q h => by
            have := hl j q h
            rw [Nat.zero_add] at this
            exact ⟨this.1, this.2.1⟩) fun q hq => ⟨layP_at nd q hq, r.out (frl q hq)⟩
          suffices J : Inv X pins σ (upd (layP H1 l) h'.objs.size (.lst (l.map fun p => V.ref p.1))) { s1 with heap := h2' } from
            ⟨.ref h'.objs.size, upd (layP H1 l) h'.objs.size (.lst (l.map fun p => V.ref p.1)), J, rfl, bi_list pm rm hz fz _ nS⟩
          refine inv_lays (s := s1) I1 (h' := h2') k1 (fun b u e => ?_) fun b u e => ?_
          · have ne : b ≠ h'.objs.size := fun z => by rw [z, fr _ (by omega)] at e; cases e
            rw [upd_ne ne]
            exact old b u e
          · by_cases hb : b = h'.objs.size
            · subst hb
              rw [upd_same] at e
              cases e
              refine .inr ⟨by omega, by rw [List.length_map]; omega, acc.toList, cc, ?_, by simpa using hS⟩
              rw [el]
              exact vals_refs l
            · rw [upd_ne hb] at e
              rcases layP_new e with e | ⟨p0, hp0, rfl, rfl⟩
              · exact .inl e
              · obtain ⟨j, hj⟩ := List.mem_iff_getElem?.mp hp0
                obtain ⟨_, _, x, y, rx, ry, q⟩ := hl j p0 hj
                exact .inr ⟨by have := far p0 hp0; omega, by show 2 ≤ sizeLine; decide, [x, y], .cons rx (.cons ry .nil), ⟨_, q, rfl, _, rfl⟩⟩
  · cases x <;> cases y <;> cases ez
end RF
end
section
set_option Elab.async false
set_option linter.all false
set_option maxRecDepth 100000
set_option maxHeartbeats 4000000
/-! Methods of texts and lists, f-strings, what is never reached. -/
namespace RF
open PySem PySem.Spec PyProof.Rows L2
theorem okS_ok {x : Str} (h : okS x = true) : PyData.strOk x = true ∧ x.length ≤ sizeLine := by
  unfold okS at h
  obtain ⟨h1, h2⟩ := Bool.and_eq_true_iff.mp h
  exact ⟨h1, of_decide_eq_true h2⟩
theorem strs_fz2 {K : PySem.W.Frag} {H : Hp} {M : Addr → Prop} : ∀ {ds : List D} {vs : List V} {bs : List Str}, FzAll K H M vs ds → strsD ds = some bs → vs = bs.map V.str
  | [], _, _, f, e => by cases f; cases e; rfl
  | .str b :: ds, _, _, f, e => by
    cases f with
    | cons h t =>
      cases h
      obtain ⟨bs, h2, rfl⟩ := Option.map_eq_some_iff.mp (show (strsD ds).map (b :: ·) = some _ from e)
      rw [strs_fz2 t h2]; rfl
theorem strs_back2 {K : PySem.W.Frag} {H : Hp} {M : Addr → Prop} : ∀ {ns : List Str}, ns.all okS = true → FzAll K H M (ns.map V.str) (ns.map PyData.str)
  | [], _ => .nil
  | n :: ns, h => by
    rw [List.all_cons] at h
    obtain ⟨h1, h2⟩ := Bool.and_eq_true_iff.mp h
    exact .cons (.str n (okS_ok h1).1 (okS_ok h1).2) (strs_back2 h2)
theorem firstIx_ok {y : D} : ∀ {ds : List D} {j : Nat}, firstIx y ds = some j → ∃ z, ds[j]? = some z ∧ PyData.eqv z y = true ∧ ∀ (m : Nat) (z' : D), m < j → ds[m]? = some z' → PyData.eqv z' y = false
  | [], j, h => by cases h
  | x :: r, j, h => by
    unfold firstIx at h
    split at h
    · rename_i hx
      cases h
      exact ⟨x, rfl, hx, fun m z' hm => absurd hm (by omega)⟩
    · rename_i hx
      obtain ⟨i, hi, rfl⟩ := Option.map_eq_some_iff.mp h
      obtain ⟨z, h1, h2, h3⟩ := firstIx_ok hi
      refine ⟨z, by simpa using h1, h2, fun m z' hm hz => ?_⟩
      cases m with
      | zero =>
        have : x = z' := by simpa using hz
        subst this
        simpa using hx
      | succ m => exact h3 m z' (by omega) (by simpa using hz)
variable {X : Cx} {Wx : WX} {T : Tab} {k : Nat} {sc : Scope} {N : List Str}
def meName : Me → Str
  | .split => "split"
  | .join => "join"
  | .index => "index"
  | .count => "count"
theorem meW_of {m : Me} {g g' : Gs} {x y : D} {w : W} (h : meW m g x y = .ok w g') : ∃ z, meD m x y = some z ∧ ((∃ zs, z = .list zs ∧ newL g zs = .ok w g') ∨ ((∀ zs, z ≠ .list zs) ∧ w = .d z ∧ g' = g)) := by
  unfold meW at h
  split at h
  · exact ⟨_, by assumption, .inl ⟨_, rfl, h⟩⟩
  · rename_i z hz e
    cases h
    exact ⟨z, e, .inr ⟨hz, rfl, rfl⟩⟩
  · cases h
theorem meW_ok {m : Me} {g : Gs} {x y : D} {p : W → Gs → Prop} {r : Exn → Gs → Prop} (q : Gd (meW m g x y) p r) : ∃ w g', meW m g x y = .ok w g' ∧ p w g' := by
  cases e : meW m g x y with
  | ok w g' => rw [e] at q; exact ⟨w, g', rfl, q⟩
  | exc x g' =>
    exfalso
    unfold meW at e
    split at e <;> (try unfold newL at e) <;> cases e
  | no => rw [e] at q; exact q.elim
/-- by values: what a method is asked -/
def rMe (K : PySem.W.Frag) (m : Me) : V → List V → Hp → VK → Prop := fun v us H Q => ∃ u g μ P x y w g', us = [u] ∧ Rel K H μ P g ∧ Pk K H (Ms μ P) v x ∧ Pk K H (Ms μ P) u y ∧ meW m g x y = .ok w g' ∧ Post K H μ P Q w g'
def meTy : Me → String
  | .split => "str"
  | .join => "str"
  | .index => "list"
  | .count => "list"
def meId : Me → String
  | .split => "str.split"
  | .join => "str.join"
  | .index => "list.index"
  | .count => "list.count"
theorem meRecv_ty {m : Me} {K : PySem.W.Frag} {H : Hp} {M : Addr → Prop} {v : V} {d : D} (h : meRecv m (some d) = true) (k : Pk K H M v d) : tyV K (meTy m) v H := by
  cases m <;> cases d <;> first
    | cases h
    | skip
  · obtain ⟨rfl, _⟩ := k.str; rfl
  · obtain ⟨rfl, _⟩ := k.str; rfl
  · obtain ⟨a, vs, rfl, e, _⟩ := k.list
    exact .inl ⟨rfl, vs, .inl (.inl e)⟩
  · obtain ⟨a, vs, rfl, e, _⟩ := k.list
    exact .inl ⟨rfl, vs, .inl (.inl e)⟩
theorem meD_split {x y z : D} (h : meD .split x y = some z) : ∃ a b, x = .str a ∧ y = .str b ∧ (b.length == 0) = false ∧ a.length + 2 ≤ sizeLine ∧ (Txt.split a b).all okS = true ∧ z = .list ((Txt.split a b).map .str) := by
  cases x <;> cases y <;> simp only [meD] at h <;> first
    | cases h
    | skip
  split at h
  · rename_i a b hc
    obtain ⟨c1, c2⟩ := Bool.and_eq_true_iff.mp hc
    obtain ⟨c2, c3⟩ := Bool.and_eq_true_iff.mp c2
    exact ⟨a, b, rfl, rfl, by simpa using c1, of_decide_eq_true c2, c3, (Option.some.inj h).symm⟩
  · cases h
theorem meD_join {x y z : D} (h : meD .join x y = some z) : ∃ a ds ys, x = .str a ∧ (y = .list ds ∨ y = .tuple ds) ∧ strsD ds = some ys ∧ joinOk a ys = true ∧ z = .str (Txt.join a ys) := by
  have fin : ∀ (a : Str) (ds : List D), ((strsD ds).bind fun ys => if joinOk a ys = true then some (PyData.str (Txt.join a ys)) else none) = some z → ∃ ys, strsD ds = some ys ∧ joinOk a ys = true ∧ z = .str (Txt.join a ys) := fun a ds h => by
    obtain ⟨ys, e1, e2⟩ := Option.bind_eq_some_iff.mp h
    by_cases hj : joinOk a ys = true
    · rw [if_pos hj] at e2
      exact ⟨ys, e1, hj, (Option.some.inj e2).symm⟩
    · rw [if_neg hj] at e2; cases e2
  cases x <;> cases y <;> simp only [meD] at h <;> first
    | cases h
    | skip
  · rename_i a ds
    obtain ⟨ys, h1, h2, h3⟩ := fin a ds h
    exact ⟨a, ds, ys, rfl, .inl rfl, h1, h2, h3⟩
  · rename_i a ds
    obtain ⟨ys, h1, h2, h3⟩ := fin a ds h
    exact ⟨a, ds, ys, rfl, .inr rfl, h1, h2, h3⟩
theorem meD_index {x y z : D} (h : meD .index x y = some z) : ∃ ds j, x = .list ds ∧ SeqAt.shaped (.list ds) = true ∧ SeqAt.shaped y = true ∧ firstIx y ds = some j ∧ z = .int (j : Nat) := by
  cases x <;> simp only [meD] at h <;> first
    | cases h
    | skip
  split at h
  · rename_i ds hc
    obtain ⟨c1, c2⟩ := Bool.and_eq_true_iff.mp hc
    obtain ⟨j, ej, rfl⟩ := Option.map_eq_some_iff.mp h
    exact ⟨ds, j, rfl, c1, c2, ej, rfl⟩
  · cases h
theorem meD_count {x y z : D} (h : meD .count x y = some z) : ∃ ds, x = .list ds ∧ min (PyData.depthAll ds) y.depth ≤ 64 ∧ z = .int (ds.countP fun z => PyData.eqv z y : Nat) := by
  cases x <;> simp only [meD] at h <;> first
    | cases h
    | skip
  split at h
  · rename_i ds hc
    exact ⟨ds, rfl, of_decide_eq_true hc, (Option.some.inj h).symm⟩
  · cases h
theorem mt_count (hu : X.A.units + 66 < cLine) : MtR X "list.count" (rMe X.K .count) := by
  intro pins s σ H x xs v us Q I rx rs h
  obtain ⟨u, g, μ, P, x', y', w, g', rfl, r, k1, k2, e, p⟩ := h
  obtain ⟨z, ez, c⟩ := meW_of e
  obtain ⟨ds, rfl, c1, rfl⟩ := meD_count ez
  obtain ⟨a, vs, e, hq, f⟩ := k1.list
  subst e
  cases rx
  cases rs with
  | cons ry rt =>
    cases rt
    rename_i uy
    obtain ⟨bs, r1⟩ := Dp.reads I y' u uy k2.dp ry
    obtain ⟨its, rv, pl, hz⟩ := I.list (SqL.of hq)
    obtain ⟨as, h4⟩ := Dp.readsAll I ds _ its (FzAll.dp f) rv
    have lay : PyData.canLayAll0 ds = true := FzAll.lay f
    refine SeqAt.count_list_data pl.isList (xs := ds) (as := as) (d := y') (bs := bs) (by simpa using h4) r1 (PyData.plainAll_of_canLay0 ds lay) (PyData.plain_of_canLay0 y' k2.lay) (by omega) ?_
    rcases c with ⟨zs, ez, en⟩ | ⟨hz, ew, eg⟩
    · cases ez
    · subst ew eg
      exact ⟨.int _, H, I.tok _, ⟨_, rfl⟩, p.here r (Fz.int _)⟩
theorem mt_me (hu : X.A.units + 66 < cLine) : ∀ m : Me, MtR X (meId m) (rMe X.K m)
  | .split => by
    intro pins s σ H x xs v us Q I rx rs h
    refine mt_split pins s σ H x xs v us Q I rx rs ?_
    obtain ⟨u, g, μ, P, x', y', w, g', rfl, r, k1, k2, e, p⟩ := h
    obtain ⟨z, ez, c⟩ := meW_of e
    obtain ⟨a, b, rfl, rfl, c1, c2, c3, rfl⟩ := meD_split ez
    obtain ⟨rfl, _⟩ := k1.str
    obtain ⟨rfl, _⟩ := k2.str
    refine ⟨a, b, rfl, rfl, c1, c2, fun q hq => ?_⟩
    rcases c with ⟨zs, ez, en⟩ | ⟨hz, _⟩
    · cases ez
      cases en
      obtain ⟨r2, e2, h2⟩ := r.push hq (strs_back2 c3)
      exact p _ _ _ r2 e2 h2
    · exact absurd rfl (hz _)
  | .join => by
    intro pins s σ H x xs v us Q I rx rs h
    refine mt_join pins s σ H x xs v us Q I rx rs ?_
    obtain ⟨u, g, μ, P, x', y', w, g', rfl, r, k1, k2, e, p⟩ := h
    obtain ⟨z, ez, c⟩ := meW_of e
    obtain ⟨a, ds, ys, rfl, hy, e1, hj, rfl⟩ := meD_join ez
    obtain ⟨rfl, _⟩ := k1.str
    have sq : ∃ pp, u = .ref pp ∧ (SqL X.K H pp (ys.map V.str) ∨ SqT X.K H pp (ys.map V.str)) := by
      rcases hy with rfl | rfl
      · obtain ⟨pp, vs, rfl, eh, f⟩ := k2.list
        exact ⟨pp, rfl, .inl (by rw [← strs_fz2 f e1]; exact .inl (.inl eh))⟩
      · obtain ⟨pp, vs, rfl, eh, f⟩ := k2.tuple
        exact ⟨pp, rfl, .inr (by rw [← strs_fz2 f e1]; exact eh)⟩
    obtain ⟨pp, rfl, sq⟩ := sq
    obtain ⟨j1, j2⟩ := Bool.and_eq_true_iff.mp hj
    refine ⟨a, pp, ys, rfl, rfl, sq, of_decide_eq_true j1, ?_⟩
    rcases c with ⟨zs, ez, en⟩ | ⟨hz, ew, eg⟩
    · cases ez
    · subst ew eg
      exact p.here r (Fz.str _ (okS_ok j2).1 (okS_ok j2).2)
  | .count => mt_count hu
  | .index => by
    intro pins s σ H x xs v us Q I rx rs h
    refine mt_indexD (by omega) pins s σ H x xs v us Q I rx rs ?_
    obtain ⟨u, g, μ, P, x', y', w, g', rfl, r, k1, k2, e, p⟩ := h
    obtain ⟨z, ez, c⟩ := meW_of e
    obtain ⟨ds, j, rfl, c1, c2, ej, rfl⟩ := meD_index ez
    obtain ⟨z, z1, z2, z3⟩ := firstIx_ok ej
    obtain ⟨a, vs, e, _⟩ := k1.list
    subst e
    refine ⟨a, u, y', ds, j, z, rfl, rfl, k1.dp, k2.dp, c1, c2, z1, z2, z3, ?_⟩
    rcases c with ⟨zs, ez, en⟩ | ⟨hz, ew, eg⟩
    · cases ez
    · subst ew eg
      exact p.here r (Fz.int _)
def recvOk : Expr → Bool
  | .Name .. => true
  | .Subscript .. => true
  | .Constant .. => true
  | .List .. => true
  | _ => false
theorem recv_base {o : Expr} {name : Str} {env : PySem.Env} (h : recvOk o = true) : attributeBase o name env (eval o env) = eval o env := by
  cases o <;> first
    | rfl
    | cases h
theorem se_meth (c : Cok T X k sc N Wx) {m : Me} {o e : Expr} {apos cpos : Pos} {fa fb F : Env → Gs → Out W} (hb : recvOk o = true) (hl : (apos.endLine == cpos.line) = true) (hst : notStar e = true) (ho : PE X o (tE X.K Wx fa)) (he : PE X e (tE X.K Wx fb))
    (hF : F = fun env g => (fa env g).bind fun x g1 => if meRecv m (peek g1 x) = true then (fb env g1).bind fun y g2 => (Out.ofO g2 (peek g2 x)).bind fun x' _ => (Out.ofO g2 (peek g2 y)).bind fun y' _ => meW m g2 x' y' else .no) :
    PE X (.Call (.Attribute o (meName m) apos) [e] [] cpos) (tE X.K Wx F) := by
  subst hF
  have sn : starEach (e :: []) X.env = (false, eval e X.env) :: starEach [] X.env := star_cons hst
  have few : ((backTo cpos (starEach (e :: []) X.env)).all (fun x => !x.1) && (backToKw cpos (keywordEach [] X.env)).all (fun x => x.1.isSome)
      && decide ((e :: ([] : List Expr)).length + ([] : List Keyword).length + (if ([] : List Keyword).isEmpty then 0 else 1) < 30)) = true := by
    rw [sn]; rfl
  have base : PE X (.Call (.Attribute o (meName m) apos) [e] [] cpos) (tBM X.K (meTy m) (rMe X.K m) (tE X.K Wx fa) (tCons (tE X.K Wx fb) tNil)) := by
    cases m with
    | split => exact pe_bm PySem.F.plainAttrs_str PySem.F.slot_str_split PySem.F.type_str_split (mt_me c.hu .split) ho (pa_cons he pa_nil (hs := sn)) (recv_base hb) few hl sn rfl
    | join => exact pe_bm PySem.F.plainAttrs_str PySem.F.slot_str_join PySem.F.type_str_join (mt_me c.hu .join) ho (pa_cons he pa_nil (hs := sn)) (recv_base hb) few hl sn rfl
    | count => exact pe_bm PySem.F.plainAttrs_list PySem.F.slot_list_count PySem.F.type_list_count (mt_me c.hu .count) ho (pa_cons he pa_nil (hs := sn)) (recv_base hb) few hl sn rfl
    | index => exact pe_bm PySem.F.plainAttrs_list PySem.F.slot_list_index PySem.F.type_list_index (mt_me c.hu .index) ho (pa_cons he pa_nil (hs := sn)) (recv_base hb) few hl sn rfl
  refine base.imp fun σ H Q ⟨env, g, μ, P, r, er, q⟩ => ?_
  refine step1 (p := fun H μ => Post X.K H μ P Q) r er (fun e h => Post.up e h) q fun w1 g1 v1 H1 μ1 r1 e1 er1 h1 q => ?_
  by_cases hr : meRecv m (peek g1 w1) = true
  · rw [if_pos hr] at q
    cases ep : peek g1 w1 with
    | none => rw [ep] at hr; cases m <;> cases hr
    | some d =>
      rw [ep] at hr
      refine ⟨meRecv_ty hr (r1.peek h1 ep), ?_⟩
      refine step1 (p := fun H μ => Post X.K H μ P Q) r1 er1 (fun e h => Post.up e h) q fun w2 g2 v2 H2 μ2 r2 e2 er2 h2 q => ?_
      obtain ⟨x', ex, q⟩ := q.ofO
      obtain ⟨y', ey, q⟩ := q.ofO
      obtain ⟨w, g', e, p⟩ := meW_ok q
      exact ⟨v2, g2, μ2, P, x', y', w, g', rfl, r2, r2.peek (h1.up e2) ex, r2.peek h2 ey, e, p⟩
  · rw [if_neg hr] at q; exact q.elim
/-! ### f-strings -/
theorem se_fmt {e : Expr} {pos : Pos} {fa F : Env → Gs → Out W} (ha : PE X e (tE X.K Wx fa))
    (hF : F = fun env g => (fa env g).bind fun x g1 => (Out.ofO g1 (peek g1 x)).bind fun x' _ => fmtW g1 x') : PE X (.FormattedValue e (-1) none pos) (tE X.K Wx F) := by
  subst hF
  refine (pe_fmt ha).imp fun σ H Q ⟨env, g, μ, P, r, er, q⟩ => ?_
  refine step1 (p := fun H μ => Post X.K H μ P Q) r er (fun e h => Post.up e h) q fun w1 g1 v1 H1 μ1 r1 e1 er1 h1 q => ?_
  obtain ⟨x', ex, q⟩ := q.ofO
  have pk := r1.peek h1 ex
  unfold fmtW at q
  cases x' with
  | str y =>
    obtain ⟨rfl, h2, h3⟩ := pk.str
    exact .inl ⟨y, rfl, h3, (show Post X.K H1 μ1 P Q (.d (.str y)) g1 from q).here r1 (Fz.str _ h2 h3)⟩
  | int i =>
    have := pk.int
    subst this
    unfold fmtD at q
    by_cases hc : (decide (i.natAbs.log2 < 1920) && okS (toString i)) = true
    · simp only [if_pos hc] at q
      obtain ⟨c1, c2⟩ := Bool.and_eq_true_iff.mp hc
      exact .inr ⟨i, rfl, of_decide_eq_true c1, (show Post X.K H1 μ1 P Q (.d (.str (toString i))) g1 from q).here r1 (Fz.str _ (okS_ok c2).1 (okS_ok c2).2)⟩
    · simp only [if_neg hc] at q
      exact q.elim
  | _ => exact q.elim
def PostJ (K : PySem.W.Frag) (H : Hp) (μ : List (Option Addr)) (P : Pv) (Q : Str → Hp → Prop) (z : Str) (g : Gs) : Prop := ∀ H' μ', Rel K H' μ' P g → Ext H μ H' μ' → Q z H'
theorem PostJ.up {K : PySem.W.Frag} {H H1 : Hp} {μ μ1 : List (Option Addr)} {P : Pv} {Q : Str → Hp → Prop} {z : Str} {g : Gs} (e : Ext H μ H1 μ1) (h : PostJ K H μ P Q z g) : PostJ K H1 μ1 P Q z g := fun H' μ' r e' => h H' μ' r (e.trans e')
theorem joins_run {C : Nat → List W → Gs → Out W} : ∀ (es : Exs) {ts : List TE}, (es.toL.length = ts.length) → (∀ (j : Nat) e t, es.toL[j]? = some e → ts[j]? = some t → t = tE X.K Wx (evE C e)) → ∀ (acc : Str) {env : Env} {g : Gs} {μ : List (Option Addr)} {P : Pv} {σ : L2.St} {H : Hp} {Q : Str → Hp → Prop},
    Rel X.K H μ P g → ER X.K H μ P σ env → Gd (evJ C es acc env g) (PostJ X.K H μ P Q) (Rx X.K Wx σ H μ P) → tJs ts acc σ H Q
  | .nil, ts, hl, ht, acc, env, g, μ, P, σ, H, Q, r, er, q => by
    cases ts with
    | nil => exact (show PostJ X.K H μ P Q acc g from q) H μ r .refl
    | cons => cases hl
  | .cons e es, ts, hl, ht, acc, env, g, μ, P, σ, H, Q, r, er, q => by
    cases ts with
    | nil => cases hl
    | cons t ts =>
      have et := ht 0 e t rfl rfl
      subst et
      unfold evJ at q
      refine step1 (p := fun H μ => PostJ X.K H μ P Q) r er (fun e h => PostJ.up e h) q fun w1 g1 v1 H1 μ1 r1 e1 er1 h1 q => ?_
      split at q
      · rename_i y
        cases (show Fz X.K H1 (Ms μ1 P) v1 (.str y) from h1)
        by_cases ho : okS (acc ++ y) = true
        · rw [if_pos ho] at q
          exact ⟨y, rfl, (okS_ok ho).2, joins_run es (Nat.succ.inj hl) (fun j e t h1 h2 => ht (j + 1) e t h1 h2) _ r1 er1 q⟩
        · rw [if_neg ho] at q
          exact q.elim
      · exact q.elim
theorem se_fstr {v1 v2 : Expr} {rest : List Expr} {pos : Pos} {C : Nat → List W → Gs → Out W} {es : Exs} {ts : List TE} {F : Env → Gs → Out W} (hj : PJ X (v1 :: v2 :: rest) ts) (hl : es.toL.length = ts.length) (ht : ∀ (j : Nat) e t, es.toL[j]? = some e → ts[j]? = some t → t = tE X.K Wx (evE C e))
    (hF : F = fun env g => (evJ C es Str.empty env g).bind fun z g1 => .ok (.d (.str z)) g1) (hk : ∀ (acc : Str) env g z g1, evJ C es acc env g = .ok z g1 → okS acc = true → okS z = true) : PE X (.JoinedStr (v1 :: v2 :: rest) pos) (tE X.K Wx F) := by
  subst hF
  refine (pe_joined hj).imp fun σ H Q ⟨env, g, μ, P, r, er, q⟩ => ?_
  refine joins_run es hl ht Str.empty r er ?_
  replace q : Gd ((evJ C es Str.empty env g).bind fun z g1 => Out.ok (W.d (.str z)) g1) (Post X.K H μ P Q) (Rx X.K Wx σ H μ P) := q
  cases e : evJ C es Str.empty env g with
  | ok z g1 =>
    rw [e] at q
    intro H' μ' r' e'
    have oz := hk _ _ _ _ _ e (by decide +kernel)
    exact (show Post X.K H μ P Q (.d (.str z)) g1 from q) _ H' μ' r' e' (Fz.str _ (okS_ok oz).1 (okS_ok oz).2)
  | exc x g1 => rw [e] at q; exact q
  | no => rw [e] at q; exact q.elim
theorem evJ_ok {C : Nat → List W → Gs → Out W} : ∀ (es : Exs) (acc : Str) (env : Env) (g : Gs) (z : Str) (g1 : Gs), evJ C es acc env g = .ok z g1 → okS acc = true → okS z = true
  | .nil, acc, env, g, z, g1, h, k => by
    unfold evJ at h
    cases h; exact k
  | .cons e es, acc, env, g, z, g1, h, k => by
    unfold evJ at h
    cases ee : evE C e env g with
    | ok w g2 =>
      rw [ee] at h
      simp only [Out.bind_ok] at h
      split at h
      · rename_i y
        by_cases ho : okS (acc ++ y) = true
        · rw [if_pos ho] at h
          exact evJ_ok es _ _ _ _ _ h ho
        · rw [if_neg ho] at h; cases h
      · cases h
    | exc x g2 => rw [ee] at h; cases h
    | no => rw [ee] at h; cases h
/-! ### what is never reached -/
theorem se_dead {e : Expr} {F : Env → Gs → Out W} (hF : F = fun _ _ => .no) : PE X e (tE X.K Wx F) := by
  subst hF
  exact ⟨fun pins s σ H Q I ⟨env, g, μ, P, r, er, q⟩ => q.elim⟩
end RF
end
section
set_option Elab.async false
set_option linter.all false
set_option maxRecDepth 100000
set_option maxHeartbeats 4000000
/-! enumerate over a tuple. -/
namespace RF
open PySem PySem.Spec PyProof.Rows L2
open AutoSeq1 (wpAny_loadPart')
/-- enumerate's object over a tuple is made -/
theorem enumT_new (t : Addr) (items : Array Value) (n : Nat) (dct : Option Addr) (sl : Array (Option Value)) :
    Meets (Builtin.«enumerate.__new__» ⟨[.type "enumerate", .ref t], []⟩) (fun _ R s => s.heap.get? t = some { cls := .type "tuple", dict := dct, data := .seq items n, slots := sl } ∧
      R (.ok (.ret (.ref (s.heap.push { cls := .type "tuple_iterator", data := .fields #[.ref t, .int 0 0] }).objs.size)))
        { s with heap := (s.heap.push { cls := .type "tuple_iterator", data := .fields #[.ref t, .int 0 0] }).push { cls := .type "enumerate", data := .fields #[.none, .bool false, .ref s.heap.objs.size, rawInt 0, .none, .none] } }) := by
  refine .of_wp fun prog w A R s ⟨ht, hR⟩ => ?_
  cases s with
  | mk hp gn dr tk os =>
    have isEnumSub := sub_enumerate
    have asTup : IsTup (Shared.heap ⟨hp, gn, dr, tk, os⟩) t items := ⟨_, ht, rfl, n, rfl⟩
    wp_walk using wpAny_loadPart' ht
    refine wpAny_stack_any fun st => wpAny_pure ?_
    split
    · rename_i c _ _ _ _ _
      cases (c == Value.type "enumerate") <;>
        (wp_walk using wpAny_loadPart' ht, iter_tuple asTup
         exact ⟨_, rfl, hR⟩)
    · wp_walk using wpAny_loadPart' ht, iter_tuple asTup
      exact ⟨_, rfl, hR⟩
section
variable {prog : Program} {w : World} {A : Around} {E : Value → Shared → Prop} {s : Shared}
theorem call_enumT {t : Addr} {items : Array Value} {Q : Value → Shared → Prop} (ht : IsTup s.heap t items)
    (k : ∀ h', IsEnum h' (s.heap.objs.size + 1) s.heap.objs.size 0 .none → h'.IsTupleIter s.heap.objs.size t 0 → (∀ b o, s.heap.get? b = some o → h'.get? b = some o) → Q (.ref (s.heap.objs.size + 1)) { s with heap := h' }) :
    wpAny (model prog w) A (call (.type "enumerate") [.ref t]) Q E s := by
  obtain ⟨⟨c, dct, dt, sl⟩, hl, hc, n, hd⟩ := ht
  simp only at hc hd
  subst hc hd
  refine callType_new F.called_enumerate (by decide) (F.typeCall_enumerate_1 _) (F.newCall_enumerate_1 _) (fun obj => F.args_object_init_2 obj _) F.entry_enumerate_new (enumT_new t items n dct sl) ⟨hl, ?_⟩
  have sz : ∀ o : Obj, (s.heap.push o).objs.size = s.heap.objs.size + 1 := fun o => Heap.size_push ..
  show _ ∧ _
  rw [sz]
  have top : ∀ o o' : Obj, o'.isFreed = false → ((s.heap.push o).push o').get? (s.heap.objs.size + 1) = some o' := fun o o' hf => by
    have := Heap.get?_push_size (s.heap.push o) (o := o') hf
    rwa [sz] at this
  exact ⟨⟨_, top _ _ rfl, rfl⟩, k _ (top _ _ rfl) ⟨_, Heap.get?_push_of_some _ (Heap.get?_push_size _ rfl), rfl, rfl⟩ fun b o e => Heap.get?_push_of_some _ (Heap.get?_push_of_some _ e)⟩
end
/-- the tuple at a, each item in a new pair with its number -/
def IteT (K : PySem.W.Frag) (a : Addr) : It where
  go := fun i H => ∃ (xs : List V) (x : V), SqT K H a xs ∧ xs[i]? = some x
  yld := fun i H v H' => ∃ T x, v = .ref T ∧ H T = none ∧ H' = upd H T (.tup [.int (i : Nat), x]) ∧ ∀ xs, SqT K H a xs → xs[i]? = some x
  stop := fun i H => ∃ xs : List V, SqT K H a xs ∧ xs.length ≤ i
theorem turn_enumT {P : Program} {w : World} {K : PySem.W.Frag} {elts : List Expr} {kk : Nat} {tpos : Pos} (a e it : Addr) :
    Turn P w K (.Tuple elts kk tpos) (IteT K a) [e, it] e (fun i h => (∃ old, IsEnum h e it ((i : Nat) : Int) old) ∧ h.IsTupleIter it a i ∧ e ≠ it ∧ a ≠ it ∧ a ≠ e) where
  mem := by simp
  obj := by
    rintro i h ⟨⟨old, he⟩, ⟨o, ho, hc, hd⟩, _⟩ b hb
    rcases (show b = e ∨ b = it by simpa using hb) with rfl | rfl
    · exact ⟨_, he, fun v q => nomatch q⟩
    · exact ⟨o, ho, fun v q => by rw [hd] at q; cases q⟩
  keep := by
    rintro i h h' ⟨⟨old, he⟩, ⟨o, ho, r⟩, hne⟩ k
    exact ⟨⟨old, k e (by simp) _ he⟩, ⟨o, k it (by simp) o ho, r⟩, hne⟩
  item := by
    intro X hP hw hK hc i pins s σ H E I hf st hg
    subst hP hw hK
    obtain ⟨⟨old, he⟩, hit, hne, hai, hae⟩ := st
    obtain ⟨xs, x, hq, hx⟩ := hg
    obtain ⟨its, rv, p, hz⟩ := I.tuple hq
    obtain ⟨u, hu, ru⟩ := rv.get hx
    have hel : e < s.heap.objs.size := Heap.lt_size he
    have hil : it < s.heap.objs.size := let ⟨_, q, _⟩ := hit; Heap.lt_size q
    have hlen : i < its.toArray.size := by
      have := (List.getElem?_eq_some_iff.mp hu).1
      simpa using this
    have D := Draws.tuple (prog := X.prog) (w := X.w) (A := X.A.in1) (I.ok.hd hc) it a hai its.toArray
    refine wpAny_pyNext_enum_itemD D he ⟨hit, p⟩ hlen hne (by simp [hne, Ne.symm hae]) fun y h' tk hy ho hst hT hsz hk => ?_
    have ey : y = u := by
      have h1 : its.toArray[i]? = some y := hy
      have h2 : its.toArray[i]? = some u := by simpa using hu
      rw [h2] at h1
      exact (Option.some.inj h1).symm
    subst ey
    refine ⟨_, rfl, wpAny_letOwnedTupleGo_enum (s := { s with heap := h', toks := tk + 1 }) ho fun h'' he' sb => ?_⟩
    have hT2 : h''.get? s.heap.objs.size = some { cls := .type "tuple", data := .seq #[.int i tk, y] } := (sb.2 _ (Nat.ne_of_gt hel)).trans hT
    have new : ObjOk X.prog X.w (upd H s.heap.objs.size (.tup [.int (i : Nat), x])) h'' s.heap.objs.size (.tup [.int (i : Nat), x]) :=
      ⟨by show 2 ≤ sizeLine; decide, [.int i tk, y], .cons ⟨_, rfl⟩ (.cons ru .nil), ⟨_, hT2, rfl, _, rfl⟩⟩
    have I1 : Inv X pins σ (upd H s.heap.objs.size (.tup [.int (i : Nat), x])) { s with heap := h'', toks := tk + 1 } :=
      I.turnedNew (ch := [e, it]) (fun b ob hb q => (sb.2 b (fun z => hb (by simp [z]))).trans (hk b ob (fun z => hb (by simp [z])) (fun z => hb (by simp [z])) q)) hf (Nat.le_refl _) new
    refine ⟨.ref s.heap.objs.size, _, I1, rfl, ⟨_, x, rfl, I.hok.fresh (Nat.le_refl _), rfl, fun ys hy => by rw [I.tuple_inj hy hq]; exact hx⟩, ⟨⟨y, ?_⟩, ?_, hne, hai, hae⟩, fun b hb => ?_⟩
    · have e1 : ((i + 1 : Nat) : Int) = (i : Int) + 1 := by omega
      rw [e1]; exact he'
    · obtain ⟨⟨o, q, r⟩, _⟩ := hst
      exact ⟨o, (sb.2 it (Ne.symm hne)).trans q, r⟩
    · rw [upd_ne (Nat.ne_of_lt ?_)]
      · exact (hf b hb).1
      · rcases (show b = e ∨ b = it by simpa using hb) with rfl | rfl
        · exact hel
        · exact hil
  done := by
    intro X hP hw hK hc i pins s σ H E I hf st hg
    subst hP hw hK
    obtain ⟨⟨old, he⟩, hit, hne, hai, hae⟩ := st
    obtain ⟨xs, hq, hx⟩ := hg
    obtain ⟨its, rv, p, hz⟩ := I.tuple hq
    obtain ⟨f0, f1, f2, f3, f4, f5⟩ := hf it (by simp)
    have hl := rv.length
    have D := Draws.tuple (prog := X.prog) (w := X.w) (A := X.A.in1) (I.ok.hd hc) it a hai its.toArray
    unfold pyNext
    refine wpAny_bind (wpAny_attempt (wpAny_callSpecial?_slot (name := Str.ofString "__next__") (show s.TypeIs (.ref e) "enumerate" from ⟨_, he, rfl⟩) F.slot_enumerate_next
      (wpAny_call_entry F.slot_enumerate_next ⟨_, he, rfl⟩ F.entry_enumerate_next ?_ (F.args_enumerate_next_1 _))))
    show wpAny _ _ (field (.ref e) 2 >>= _) _ _ s
    refine wpAny_bind (wpAny_field he rfl (x := .ref it) rfl ?_)
    refine wpAny_bind (wpAny_nextOf_tuple_end (I.ok.hd hc) hit p (by simp; omega) fun h' x he' ⟨o, ho, hcl⟩ => ?_)
    refine wpAny_bind (wpAny_isInstance (T := "StopIteration") (b := true) ⟨o, ho, hcl⟩ isSubtype_stop ?_)
    exact wpAny_pure ⟨rfl, I.turned (t' := s.toks) (fun b o hb q => he' b o hb q) f0 f1 f3 f4 f5⟩
  self := fun A i s Q E st h => let ⟨⟨_, he⟩, _⟩ := st; wpAny_pyIter_enum he h
def iEnumA (K : PySem.W.Frag) (ta : TA) : TI := fun σ H R => ta σ H fun vs H1 => ∃ a, vs = [.ref a] ∧ ((∃ xs, SqL K H1 a xs) ∧ R (Ite K a) H1 ∨ (∃ xs, SqT K H1 a xs) ∧ R (IteT K a) H1)
theorem pi_enumA {X : Cx} {e : Expr} {ta : TA} {p pos tpos : Pos} {elts : List Expr} {kk : Nat} (hg : Gl X "enumerate") (hm : X.mg "enumerate" = none) (ha : PA X [e] ta) (hs : starEach [e] X.env = [(false, eval e X.env)] := by rfl) :
    PI X (.Tuple elts kk tpos) (.Call (.Name "enumerate" p) [e] [] pos) (iEnumA X.K ta) := by
  refine ⟨fun pins s σ H R I h => ?_⟩
  refine Call_ (ld_blt I hg hm boot_enumerate (PyProof.Rows.callWith_type1 (thn (ha.run pos pins s σ H _ I h) fun us s1 ⟨vs, H1, I1, r1, a, ex, q1⟩ => ?_) hs rfl))
  subst ex
  cases r1 with
  | cons r rr =>
    cases rr
    cases r
    have place : ∀ b ∈ [s1.heap.objs.size + 1, s1.heap.objs.size], FpOk X pins H1 b := fun b hb => by
      have hle : s1.heap.objs.size ≤ b := by
        rcases (show b = s1.heap.objs.size + 1 ∨ b = s1.heap.objs.size by simpa using hb) with z | z <;> omega
      exact I1.fpOk hle (I1.hok.fresh hle)
    rcases q1 with ⟨⟨xs, hq⟩, q⟩ | ⟨⟨xs, hq⟩, q⟩
    · obtain ⟨its, rv, p', hz⟩ := I1.list hq
      exact call_enumerate_list p'.isList fun h' he hit hsz hk => wpAny_pyIter_enum he
        ⟨_, _, _, _, H1, rfl, I1.kept (t' := s1.toks) hk, turn_enum a (s1.heap.objs.size + 1) s1.heap.objs.size, ⟨⟨.none, he⟩, hit, Nat.succ_ne_self _⟩, place, q⟩
    · obtain ⟨its, rv, p', hz⟩ := I1.tuple hq
      have hlt : a < s1.heap.objs.size := let ⟨_, ho, _⟩ := p'; Heap.lt_size ho
      exact call_enumT p' fun h' he hit hk => wpAny_pyIter_enum he
        ⟨_, _, _, _, H1, rfl, I1.kept (t' := s1.toks) hk, turn_enumT a (s1.heap.objs.size + 1) s1.heap.objs.size, ⟨⟨.none, he⟩, hit, Nat.succ_ne_self _, Nat.ne_of_lt hlt, Nat.ne_of_lt (Nat.lt_succ_of_lt hlt)⟩, place, q⟩
section
variable {K : PySem.W.Frag} {H : Hp} {M : Addr → Prop} {xs : List D} {a : Addr}
theorem gives_enumT (f : Fz K H M (.ref a) (.tuple xs)) : Gives K (IteT K a) H M (xs.mapIdx fun i y => .tuple [.int (i : Nat), y]) := by
  intro H2 M2 ⟨l1, l2, l3⟩
  obtain ⟨_, vs, e, hq, fa⟩ := (show Pk K H2 M2 (.ref a) (.tuple xs) from .inl (f.ext l1 l2)).tuple
  cases e
  have hl := fa.length
  simp only [List.length_mapIdx]
  refine ⟨fun i hi => ⟨vs, vs[i]'(by omega), hq, by simp⟩, ⟨vs, hq, by omega⟩, fun i v H3 hi y => ?_⟩
  obtain ⟨T, x, rfl, hT, rfl, h1⟩ := y
  obtain ⟨d, h3, h4⟩ := fa.get' (h1 vs hq)
  obtain ⟨q1, q2⟩ := pair_fz l3 hT (.int (i : Nat)) h4
  exact ⟨q1, _, by rw [List.getElem?_mapIdx, h3]; rfl, q2⟩
end
variable {X : Cx} {Wx : WX} {T : Tab} {k : Nat} {sc : Scope} {N : List Str}
theorem si_enumA (c : Cok T X k sc N Wx) {elts : List Expr} {kk : Nat} {tpos : Pos} {a : Expr} {p pos : Pos} {fa : Env → Gs → Out W} {F : Env → Gs → Out (List D)} (hg : sc.names.lookup ("enumerate" : Str) = some .globalImplicit) (hfr : ("enumerate" : Str) ∈ T.free) (hst : notStar a = true) (ha : PE X a (tE X.K Wx fa))
    (hF : F = fun env g => (fa env g).bind fun x g1 => match x with
    | .d (.list xs) => .ok (xs.mapIdx fun i y => .tuple [.int (i : Nat), y]) g1
    | .d (.tuple xs) => .ok (xs.mapIdx fun i y => .tuple [.int (i : Nat), y]) g1
    | _ => .no) : PI X (.Tuple elts kk tpos) (.Call (.Name "enumerate" p) [a] [] pos) (tI X.K Wx F) := by
  subst hF
  refine (pi_enumA (c.gl hg) (c.g.free _ hfr) (pa_cons ha pa_nil (star_cons hst)) (star_cons hst)).imp fun σ H R ⟨env, g, μ, P, r, er, q⟩ => ?_
  refine ⟨env, g, μ, P, r, er, q.bind.mono (fun w g1 q v H1 μ1 r1 e1 h1 => ?_) fun _ _ z => z⟩
  split at q
  · rename_i xs
    have h1 : Fz X.K H1 (Ms μ1 P) v (.list xs) := h1
    obtain ⟨a, vs, rfl, hq, fa⟩ := (show Pk X.K H1 (Ms μ1 P) v (.list xs) from .inl h1).list
    have q : PostI X.K H μ P R _ g1 := q
    exact ⟨a, rfl, .inl ⟨⟨vs, SqL.of hq⟩, q _ H1 μ1 r1 e1 (gives_enum h1)⟩⟩
  · rename_i xs
    have h1 : Fz X.K H1 (Ms μ1 P) v (.tuple xs) := h1
    obtain ⟨a, vs, rfl, hq, fa⟩ := (show Pk X.K H1 (Ms μ1 P) v (.tuple xs) from .inl h1).tuple
    have q : PostI X.K H μ P R _ g1 := q
    exact ⟨a, rfl, .inr ⟨⟨vs, hq⟩, q _ H1 μ1 r1 e1 (gives_enumT h1)⟩⟩
  · exact q.elim
theorem gives_rngC {K : PySem.W.Frag} {H : Hp} {M : Addr → Prop} (lo c : Int) (n : Nat) : Gives K (Itc lo c n) H M ((List.range n).map fun i => .int (lo + (i : Nat) * c)) := by
  intro H2 M2 _
  simp only [List.length_map, List.length_range]
  refine ⟨fun i hi => hi, Nat.le_refl _, fun i v H3 hi y => ?_⟩
  obtain ⟨rfl, rfl⟩ := y
  exact ⟨fun _ _ h => h, .int (lo + (i : Nat) * c), by simp [hi], .int _⟩
theorem si_rng3 (cc : Cok T X k sc N Wx) {tg a b c : Expr} {p pos : Pos} {fa fb fc : Env → Gs → Out W} {F : Env → Gs → Out (List D)} (hg : sc.names.lookup ("range" : Str) = some .globalImplicit) (hfr : ("range" : Str) ∈ T.free) (h1 : notStar a = true) (h2 : notStar b = true) (h3 : notStar c = true)
    (ha : PE X a (tE X.K Wx fa)) (hb : PE X b (tE X.K Wx fb)) (hc : PE X c (tE X.K Wx fc))
    (hF : F = fun env g => (fa env g).bind fun x g1 => (fb env g1).bind fun y g2 => (fc env g2).bind fun z g3 => rng3W g3 x y z) : PI X tg (.Call (.Name "range" p) [a, b, c] [] pos) (tI X.K Wx F) := by
  subst hF
  refine (pi_range3 (cc.gl hg) (cc.g.free _ hfr) (pa_cons ha (pa_cons hb (pa_cons hc pa_nil (star_cons h3)) (star_cons h2)) (star_cons h1)) (by rw [star_cons h1, star_cons h2, star_cons h3]) (by rw [star_cons h2, star_cons h3]; rfl)).imp fun σ H R ⟨env, g, μ, P, r, er, q⟩ => ?_
  refine step1 (p := fun H μ => PostI X.K H μ P R) r er (fun e h => PostI.up e h) q fun w1 g1 v1 H1 μ1 r1 e1 er1 h1 q => ?_
  refine step1 (p := fun H μ => PostI X.K H μ P R) r1 er1 (fun e h => PostI.up e h) q fun w2 g2 v2 H2 μ2 r2 e2 er2 h2 q => ?_
  refine step1 (p := fun H μ => PostI X.K H μ P R) r2 er2 (fun e h => PostI.up e h) q fun w3 g3 v3 H3 μ3 r3 e3 er3 h3 q => ?_
  unfold rng3W at q
  split at q
  · rename_i i j c _ _
    cases (show Fz X.K H1 (Ms μ1 P) v1 (.int i) from h1)
    cases (show Fz X.K H2 (Ms μ2 P) v2 (.int j) from h2)
    cases (show Fz X.K H3 (Ms μ3 P) v3 (.int c) from h3)
    by_cases hc : (decide (c ≠ 0) && (decide (c.natAbs < 1073741824) && (Builtin.Range.small i j c && decide (0 ≤ Builtin.Range.rangeSize i j c)))) = true
    · rw [if_pos hc] at q
      obtain ⟨c1, c2⟩ := Bool.and_eq_true_iff.mp hc
      obtain ⟨c2, c3⟩ := Bool.and_eq_true_iff.mp c2
      obtain ⟨c3, c4⟩ := Bool.and_eq_true_iff.mp c3
      have c4 := of_decide_eq_true c4
      have q : PostI X.K H3 μ3 P R _ g3 := q
      exact ⟨i, j, c, _, rfl, ⟨of_decide_eq_true c1, of_decide_eq_true c2, c3, by omega⟩, q _ H3 μ3 r3 .refl (gives_rngC i c _)⟩
    · rw [if_neg hc] at q; exact q.elim
  · exact q.elim
end RF
end
section
set_option Elab.async false
set_option linter.all false
set_option maxRecDepth 100000
set_option maxHeartbeats 4000000
/-! Reading: a call tried by way of a lambda. -/
namespace RF
open PySem PySem.Spec PyProof.Rows L2

theorem kinT_ok : ∀ x ∈ excN, okS (kinT (kf x)) = true := by decide +kernel
section
variable {K : PySem.W.Frag} {H H1 : Hp} {μ : List (Option Addr)} {P : Pv} {g : Gs}
/-- what stands but the tables of code objects -/
theorem Ext.tabs (e : LamX.ExtN H H1) : Ext H μ H1 μ := ⟨fun a o h _ n => e a o h n, fun a ⟨o, h, n⟩ => ⟨o, e a o h n, n⟩, fun _ h => .inl h, fun _ h => ⟨h, .inl rfl⟩⟩
theorem Rel.tabs (r : Rel K H μ P g) (e : LamX.ExtN H H1) (t : LamX.Tabs (tabK K) H1) : Rel K H1 μ P g := by
  have x : Ext H μ H1 μ := Ext.tabs e
  refine ⟨r.len, r.inj, r.apart, r.privUp x, fun i a h => ?_, r.dead, t⟩
  obtain ⟨o, h1, h2⟩ := r.obj i a h
  refine ⟨o, h1, ?_⟩
  cases o with
  | lst xs =>
    obtain ⟨vs, h3, h4⟩ := h2
    exact ⟨vs, e _ _ h3 nt_lst, h4.up x⟩
end
variable {X : Cx} {Wx : WX} {T : Tab} {k : Nat} {sc : Scope} {N : List Str}
theorem Gok.less {T : Tab} {P : Program} {w : World} {K : PySem.W.Frag} {mg : Str → Option Value} {base : Heap} {j k : Nat} (g : Gok T P w K mg base k) (h : j ≤ k) (c : Str) : Gok (T.to c) P w K mg base j :=
  ⟨g.al, g.free, g.cons, g.few, fun i hi => g.fn i (Nat.le_trans hi h), g.tr, g.exc⟩
theorem run_far {fs : List Fn} (few : fs.length ≤ 1000) (i : Nat) : (∀ ws g, run fs 0 (i + 1000) ws g = .no) ∧ (∀ ws g, run fs 1 (i + 1000) ws g = .no) ∧ ∀ k, run fs (k + 2) (i + 1000) = run fs k i := by
  have e : fs[i + 1000]? = none := List.getElem?_eq_none (by omega)
  refine ⟨fun _ _ => rfl, fun ws g => ?_, fun k => ?_⟩
  · unfold run
    rw [e]
    simp
  · funext ws g
    conv => lhs; unfold run
    rw [e]
    simp
theorem plain_lam (env : PySem.Env) : defaultsOf ⟨[], [], none, [], [], none, []⟩ env = ([], []) := rfl
theorem bind_lam (body : Expr) (scope : Scope) (q : Str) (cl : List (Str × Addr)) (pm cv ctv : Value) : bindArgs (PySem.W.kla_fn "<lambda>" q ⟨[], [], none, [], [], none, []⟩ body scope cl pm cv ctv) ⟨[], []⟩ = pure [] := by rfl
theorem se_try (c : Cok T X k sc N Wx) (hcur : T.cur ∈ T.lams) (hne : T.cur ≠ Str.empty) {i : Nat} {d : Fd} {scope : Scope} {ps : List Expr} {es : Exs} {p fp fpos lpos pos : Pos} {F : Env → Gs → Out W} (gt : sc.names.lookup ("_law_try" : Str) = some .globalImplicit) (hL : LamX.lamSB sc scope = true)
    (args : ∀ {Y : Cx} {Wy : WX} (j : Nat), Cok (T.to "") Y j scope N Wy → PE Y (.Call (.Name d.name fp) ps [] fpos) (tE Y.K Wy fun env g => (evEs (run T.fns j) es env g).bind fun ws g1 => run T.fns j i ws g1))
    (hF : F = fun env g => match evEs (fun n => run T.fns k (n + 1000)) es env g with
      | .ok ws g1 => tryW g.length (run T.fns k (i + 1000) ws g1)
      | _ => .no) : PE X (.Call (.Name "_law_try" p) [.Lambda ⟨[], [], none, [], [], none, []⟩ (.Call (.Name d.name fp) ps [] fpos) scope lpos] [] pos) (tE X.K Wx F) := by
  subst hF
  have far := run_far c.g.few
  have void : (∀ ws g, run T.fns k (i + 1000) ws g = .no) → PE X (.Call (.Name "_law_try" p) [.Lambda ⟨[], [], none, [], [], none, []⟩ (.Call (.Name d.name fp) ps [] fpos) scope lpos] [] pos) (tE X.K Wx fun env g => match evEs (fun n => run T.fns k (n + 1000)) es env g with
      | .ok ws g1 => tryW g.length (run T.fns k (i + 1000) ws g1)
      | _ => .no) := fun z => ⟨fun pins s σ H Q I ⟨env, g, μ, P, r, er, q⟩ => by
    exfalso
    have q : Gd (match evEs (fun n => run T.fns k (n + 1000)) es env g with
      | .ok ws g1 => tryW g.length (run T.fns k (i + 1000) ws g1)
      | _ => .no) (Post X.K H μ P Q) (Rx X.K Wx σ H μ P) := q
    cases e : evEs (fun n => run T.fns k (n + 1000)) es env g with
    | ok ws g1 =>
      rw [e] at q
      have q : Gd (tryW g.length (run T.fns k (i + 1000) ws g1)) (Post X.K H μ P Q) (Rx X.K Wx σ H μ P) := q
      rw [z] at q
      exact q
    | exc _ _ => rw [e] at q; exact q
    | no => rw [e] at q; exact q⟩
  match k, c with
  | 0, c => exact void (far i).1
  | 1, c => exact void (far i).2.1
  | k + 2, c =>
    clear void
    have e1 : (fun n => run T.fns (k + 2) (n + 1000)) = run T.fns k := funext fun n => (far n).2.2 k
    have e2 := (far i).2.2 k
    rw [e1, e2]
    have tr := c.g.tr (by intro z; rw [z] at hcur; cases hcur)
    obtain ⟨g, oc, od, pg, bg, sg, dV, kV, doc, pm, an, cdv, ct, osl, mgt, kp, lk, hcd, bn, S, ht⟩ := tr.fn
    obtain ⟨C1, C2, C3, m1, m2, m3, kin⟩ := tr.ex
    obtain ⟨cc, A, hcode, TB, mem⟩ := c.lam hcur hne
    have L : LamX.LamS X.env.scope scope := by rw [c.scp]; exact LamX.lamS_by hL
    have hva : Vis sg "_law_call_so" := by
      unfold isTry at ht
      split at ht
      · obtain ⟨z, _⟩ := and2 ht
        obtain ⟨z, _⟩ := and2 z
        exact .inl (decT' z)
      · cases ht
    refine (pe_lamN (T := tabK X.K) (k := k) (a := "_law_call_so") (Ng := tryN) (TT := tTry X.K X.mg C1 C2 C3) (t := fun E => tE X.K (fun cls d _ H' => E cls d H') fun env g => (evEs (run T.fns k) es env g).bind fun ws g1 => run T.fns k i ws g1)
      (c.gl gt) mgt kp lk hcd bn S rfl hva (try_gives (k := k) tr.kd m1 m2 m3 c.room ht) TB hcode mem (fun p hp e => tr.one p hp _ mem e) c.room L (plain_lam _) (bind_lam _ _) (fun A2 outer s H E f c' hr => ?_) (by decide +kernel) (by decide +kernel) (by decide +kernel)).imp fun σ H Q ⟨env, g, μ, P, r, er, q⟩ => ?_
    · exact args k (Y := lamN X A2 outer s H E scope f c') ⟨c.g.less (by omega) "", rfl, c.nm, c.nd, rfl, hr, lamN_takes, L.kind, fun _ z => absurd rfl z⟩
    · refine ⟨r.tab, fun H1 eN T1 => ?_⟩
      have r1 := r.tabs eN T1
      have x1 : Ext H μ H1 μ := Ext.tabs eN
      refine ⟨env, g, μ, P, r1, er.up x1, ?_⟩
      have q : Gd (match evEs (run T.fns k) es env g with
        | .ok ws g1 => tryW g.length (run T.fns k i ws g1)
        | _ => .no) (Post X.K H μ P Q) (Rx X.K Wx σ H μ P) := q
      cases e : evEs (run T.fns k) es env g with
      | exc _ _ => rw [e] at q; exact q.elim
      | no => rw [e] at q; exact q.elim
      | ok ws g1 =>
        rw [e] at q
        show Gd ((evEs (run T.fns k) es env g).bind fun ws g1 => run T.fns k i ws g1) (Post X.K H1 μ P _) (Rx X.K _ σ H1 μ P)
        rw [e]
        show Gd (run T.fns k i ws g1) (Post X.K H1 μ P _) (Rx X.K _ σ H1 μ P)
        have q : Gd (tryW g.length (run T.fns k i ws g1)) (Post X.K H μ P Q) (Rx X.K Wx σ H μ P) := q
        cases er2 : run T.fns k i ws g1 with
        | no => rw [er2] at q; exact q.elim
        | ok w g2 =>
          rw [er2] at q
          have q : Gd ((give g2 w).bind fun x g2 => .ok (.d (.tuple [.str "told", x])) g2) (Post X.K H μ P Q) (Rx X.K Wx σ H μ P) := q
          cases eg : give g2 w with
          | no => rw [eg] at q; exact q.elim
          | exc _ _ => rw [eg] at q; cases w <;> simp only [give] at eg <;> (try split at eg) <;> cases eg
          | ok x g3 =>
            rw [eg] at q
            have q : Post X.K H μ P Q (.d (.tuple [.str "told", x])) g3 := q
            intro v H' μ' r' e' hv
            obtain ⟨μ3, r3, e3, fx⟩ := r'.give hv eg
            refine ⟨by show 2 ≤ sizeLine; decide, fun p np => ⟨_, rfl, ?_⟩⟩
            exact (q.up (x1.trans (e'.trans e3))).tup r3 (.cons (.str _ (by decide +kernel) (by decide +kernel)) (.cons fx .nil)) p np
        | exc ex g2 =>
          rw [er2] at q
          intro cls dd H' μ' r' e' hx
          obtain ⟨ha, rfl, rfl, hm⟩ := hx
          have q : Gd (match ex.arg with
            | none => Out.ok (W.d (.str (kinT (kf ex.cls)))) (g2.take g.length)
            | some _ => .no) (Post X.K H μ P Q) (Rx X.K Wx σ H μ P) := q
          rw [ha] at q
          have q : Post X.K H μ P Q (.d (.str (kinT (kf ex.cls)))) (g2.take g.length) := q
          obtain ⟨k1, k2, k3, k4⟩ := kin ex.cls hm
          refine ⟨_, _, rfl, rfl, k1, k2, k3, k4, fun H2 sm => ?_⟩
          have ok := kinT_ok ex.cls hm
          unfold okS at ok
          obtain ⟨o1, o2⟩ := and2 ok
          have ec := (x1.trans e').cut
          rw [r.len] at ec
          exact q (.str _) H2 _ ((r'.cut g.length).same sm) (ec.trans (Ext.same sm)) (.str _ o1 (decT' o2))
end RF
end
section
set_option Elab.async false
set_option linter.all false
set_option maxRecDepth 100000
/-! The checker: a term of the evaluator is what the program's text says; expressions. -/
namespace RF
open PySem PySem.Spec PyProof.Rows L2

/-! ### the checker -/
def isG (sc : Scope) (x : Str) : Bool := decide (sc.names.lookup x = some .globalImplicit) && !(x == ("__debug__" : Str))
def isVis (sc : Scope) (x : Str) : Bool := (decide (sc.names.lookup x = some .local) || (decide (sc.names.lookup x = some .cell) || decide (sc.names.lookup x = some .free))) && (!(x == ("__debug__" : Str)) && !(x == ("__classdict__" : Str)))
def cstB : D → Const → Bool
  | .none, .none => true
  | .bool a, .bool b => decide (a = b)
  | .int a, .int b => decide (a = b)
  | .str a, .str b => decide (a = b) && (PyData.strOk b && decide (b.length ≤ sizeLine))
  | _, _ => false
mutual
def dEq : D → D → Bool
  | .none, .none => true
  | .bool a, .bool b => decide (a = b)
  | .int a, .int b => decide (a = b)
  | .str a, .str b => decide (a = b)
  | .tuple a, .tuple b => dEqs a b
  | _, _ => false
def dEqs : List D → List D → Bool
  | [], [] => true
  | a :: r, b :: t => dEq a b && dEqs r t
  | _, _ => false
end
def conIn (T : Tab) (x : Str) (d : D) : Bool := T.consts.any fun p => decide (p.1 = x) && dEq p.2 d
def ownOf (N : List Str) (own : List Nat) : List (Str × Nat) := own.filterMap fun i => (N[i]?).map fun x => (x, i)
/-! a target; cells may be stored where b -/
mutual
def ckG (N : List Str) (b : Bool) : Tg → Scope → Expr → Bool
  | .nm i, sc, p => (match p with
    | .Name x _ => decide (N[i]? = some x) && (decide (sc.names.lookup x = some .local) || (b && decide (sc.names.lookup x = some .cell)))
    | _ => false)
  | .tup ts, sc, p => (match p with
    | .Tuple ps _ _ => ckGs N b ts sc ps
    | _ => false)
def ckGs (N : List Str) (b : Bool) : Tgs → Scope → List Expr → Bool
  | .nil, _, ps => ps.isEmpty
  | .cons t r, sc, ps => (match ps with
    | p :: qs => notStar p && (ckG N b t sc p && ckGs N b r sc qs)
    | [] => false)
end
def argsOk (a : Arguments) : Bool := a.posonlyargs.isEmpty && (a.vararg.isNone && (a.kwonlyargs.isEmpty && (a.kw_defaults.isEmpty && (a.kwarg.isNone && a.defaults.isEmpty))))
theorem argsOk_eq {a : Arguments} (h : argsOk a = true) : a = ⟨[], a.args, none, [], [], none, []⟩ := by
  obtain ⟨a1, a2, a3, a4, a5, a6, a7⟩ := a
  simp only [argsOk, Bool.and_eq_true, List.isEmpty_iff, Option.isNone_iff_eq_none] at h
  obtain ⟨h1, h2, h3, h4, h5, h6⟩ := h
  subst h1 h2 h3 h4 h5 h6
  rfl
def plainT : Expr → Bool
  | .Name .. => true
  | .Constant .. => true
  | .Subscript .. => true
  | .Call .. => true
  | _ => false
mutual
def ckE (T : Tab) (N : List Str) : Ex → Scope → Expr → Bool
  | .var i, sc, p => (match p with
    | .Name x _ => decide (N[i]? = some x) && isVis sc x
    | _ => false)
  | .cst d, _, p => (match p with
    | .Constant c _ _ => cstB d c
    | _ => false)
  | .glob x d, sc, p => (match p with
    | .Name y _ => decide (x = y) && (isG sc x && conIn T x d)
    | _ => false)
  | .tup es, sc, p => (match p with
    | .Tuple ps _ _ => ckEs T N es sc ps
    | _ => false)
  | .lst es, sc, p => (match p with
    | .List ps _ => ckEs T N es sc ps
    | _ => false)
  | .frz e, sc, p => ckE T N e sc p
  | .bin o a b, sc, p => (match p with
    | .BinOp l op r _ => decide (op = boOp o) && (ckE T N a sc l && ckE T N b sc r)
    | _ => false)
  | .adds a i, sc, p => (match p with
    | .BinOp l op (.Name x _) _ => decide (op = .Add) && (ckE T N a sc l && (decide (N[i]? = some x) && isVis sc x))
    | _ => false)
  | .neg a, sc, p => (match p with
    | .UnaryOp op q _ => decide (op = .USub) && ckE T N a sc q
    | _ => false)
  | .cmp o a b, sc, p => (match p with
    | .Compare l [op] [r] _ => decide (op = coOp o) && (notSet r && (ckE T N a sc l && ckE T N b sc r))
    | _ => false)
  | .chain o o' a b c, sc, p => (match p with
    | .Compare l [op, op'] [m, r] _ => decide (op = coOp o) && (decide (op' = coOp o') && (notSet r && (ckE T N a sc l && (ckE T N b sc m && ckE T N c sc r))))
    | _ => false)
  | .nt a, sc, p => (match p with
    | .UnaryOp op q _ => decide (op = .Not) && ckE T N a sc q
    | _ => false)
  | .bone a, sc, p => (match p with
    | .BoolOp _ [q] _ => ckE T N a sc q
    | _ => false)
  | .land a r, sc, p => (match p with
    | .BoolOp op (q :: q' :: qs) pos => decide (op = .And) && (ckE T N a sc q && ckE T N r sc (.BoolOp .And (q' :: qs) pos))
    | _ => false)
  | .lor a r, sc, p => (match p with
    | .BoolOp op (q :: q' :: qs) pos => decide (op = .Or) && (ckE T N a sc q && ckE T N r sc (.BoolOp .Or (q' :: qs) pos))
    | _ => false)
  | .ite c a b, sc, p => (match p with
    | .IfExp q l r _ => ckT T N c sc q && (ckE T N a sc l && ckE T N b sc r)
    | _ => false)
  | .idx a i, sc, p => (match p with
    | .Subscript l r _ => notSlice r && (ckE T N a sc l && ckE T N i sc r)
    | _ => false)
  | .sl a lo hi, sc, p => (match p with
    | .Subscript l (.Slice q r none _) _ => ckE T N a sc l && (ckO T N lo sc q && ckO T N hi sc r)
    | _ => false)
  | .call f es, sc, p => (match p, T.fds[f]? with
    | .Call (.Name x _) ps [] _, some d => decide (d.name = x) && (isG sc x && ckEs T N es sc ps)
    | _, _ => false)
  | .bi b es, sc, p => (match b with
    | .sortedSet => (match p with
      | .Call (.Name x _) [.Call (.Name y _) [q] [] _] [] _ => decide (x = ("sorted" : Str)) && (decide (y = ("set" : Str)) && ((isG sc x && decide (x ∈ T.free)) && ((isG sc y && decide (y ∈ T.free)) && ckEs T N es sc [q])))
      | _ => false)
    | .listZip => (match p with
      | .Call (.Name x _) [.Call (.Name y _) [q, r] [] _] [] _ => decide (x = ("list" : Str)) && (decide (y = ("zip" : Str)) && ((isG sc x && decide (x ∈ T.free)) && ((isG sc y && decide (y ∈ T.free)) && ckEs T N es sc [q, r])))
      | _ => false)
    | _ => (match p with
      | .Call (.Name x _) (q :: qs) [] _ => biOk b && (decide (biName b = x) && ((isG sc x && decide (x ∈ T.free)) && ckEs T N es sc (q :: qs)))
      | _ => false))
  | .isi a ts, sc, p => (match p, ts with
    | .Call (.Name x _) [q, .Name y _] [] _, [t] => decide (x = ("isinstance" : Str)) && (decide (y = tyStr t) && ((isG sc x && decide (x ∈ T.free)) && ((isG sc y && decide (y ∈ T.free)) && (notStar q && ckE T N a sc q))))
    | _, _ => false)
  | .meth m o e, sc, p => (match p with
    | .Call (.Attribute q a apos) [v] [] cpos => decide (a = meName m) && (recvOk q && ((apos.endLine == cpos.line) && (notStar v && (ckE T N o sc q && ckE T N e sc v))))
    | _ => false)
  | .fmt e, sc, p => (match p with
    | .FormattedValue q cv none _ => decide (cv = -1) && ckE T N e sc q
    | _ => false)
  | .fstr es, sc, p => (match p with
    | .JoinedStr (v1 :: v2 :: rest) _ => ckEs T N es sc (v1 :: v2 :: rest)
    | _ => false)
  | .dead, _, _ => true
  | .tryc f es, sc, p => (match p, T.fds[f]? with
    | .Call (.Name x _) [.Lambda as (.Call (.Name y _) qs [] _) scope _] [] _, some d => decide (x = ("_law_try" : Str)) && (decide (T.cur ∈ T.lams) && (!decide (T.cur = Str.empty) && (isG sc x && ((argsOk as && as.args.isEmpty) && (LamX.lamSB sc scope && (decide (d.name = y) && (isG scope y && ckEs (T.to Str.empty) N es scope qs)))))))
    | _, _ => false)
  | .lc elt tg it ifs own, sc, p => (match p with
    | .ListComp q [⟨t, iter, fs, as⟩] scope _ => decide (as = 0) && (ckI T N it sc t iter && (blkC N sc scope (ownOf N own) && (decide ((ownOf N own).map (·.2) = own) && ((tgS tg).all (fun i => decide (i ∈ own)) && (ckG N false tg (relS scope sc) t && (ckTo (T.to Str.empty) N ifs (relS scope sc) fs && ckE (T.to Str.empty) N elt (relS scope sc) q))))))
    | _ => false)
termination_by structural e => e
def ckT (T : Tab) (N : List Str) : Ex → Scope → Expr → Bool
  | .nt a, sc, p => (match p with
    | .UnaryOp op q _ => decide (op = .Not) && ckT T N a sc q
    | _ => false)
  | .bone a, sc, p => (match p with
    | .BoolOp _ [q] _ => ckT T N a sc q
    | _ => false)
  | .land a r, sc, p => (match p with
    | .BoolOp op (q :: q' :: qs) pos => decide (op = .And) && (ckT T N a sc q && ckT T N r sc (.BoolOp .And (q' :: qs) pos))
    | _ => false)
  | .lor a r, sc, p => (match p with
    | .BoolOp op (q :: q' :: qs) pos => decide (op = .Or) && (ckT T N a sc q && ckT T N r sc (.BoolOp .Or (q' :: qs) pos))
    | _ => false)
  | .cmp o a b, sc, p => (match p with
    | .Compare l [op] [r] _ => decide (op = coOp o) && (notSet r && (ckE T N a sc l && ckE T N b sc r))
    | _ => false)
  | .chain o o' a b c, sc, p => (match p with
    | .Compare l [op, op'] [m, r] _ => decide (op = coOp o) && (decide (op' = coOp o') && (notSet r && (ckE T N a sc l && (ckE T N b sc m && ckE T N c sc r))))
    | _ => false)
  | .var i, sc, p => plainT p && (match p with
    | .Name x _ => decide (N[i]? = some x) && isVis sc x
    | _ => false)
  | .cst d, sc, p => plainT p && (match p with
    | .Constant c _ _ => cstB d c
    | _ => false)
  | .idx a i, sc, p => plainT p && (match p with
    | .Subscript l r _ => notSlice r && (ckE T N a sc l && ckE T N i sc r)
    | _ => false)
  | .call f es, sc, p => plainT p && (match p, T.fds[f]? with
    | .Call (.Name x _) ps [] _, some d => decide (d.name = x) && (isG sc x && ckEs T N es sc ps)
    | _, _ => false)
  | .bi b es, sc, p => plainT p && (match p with
    | .Call (.Name x _) (q :: qs) [] _ => biOk b && (decide (biName b = x) && ((isG sc x && decide (x ∈ T.free)) && ckEs T N es sc (q :: qs)))
    | _ => false)
  | .isi a ts, sc, p => plainT p && (match p, ts with
    | .Call (.Name x _) [q, .Name y _] [] _, [t] => decide (x = ("isinstance" : Str)) && (decide (y = tyStr t) && ((isG sc x && decide (x ∈ T.free)) && ((isG sc y && decide (y ∈ T.free)) && (notStar q && ckE T N a sc q))))
    | _, _ => false)
  | _, _, _ => false
termination_by structural e => e
def ckEs (T : Tab) (N : List Str) : Exs → Scope → List Expr → Bool
  | .nil, _, ps => ps.isEmpty
  | .cons e r, sc, ps => (match ps with
    | p :: qs => notStar p && (ckE T N e sc p && ckEs T N r sc qs)
    | [] => false)
termination_by structural e => e
def ckO (T : Tab) (N : List Str) : Exo → Scope → Option Expr → Bool
  | .none, _, p => p.isNone
  | .some e, sc, p => (match p with
    | some q => ckE T N e sc q
    | none => false)
termination_by structural e => e
def ckTo (T : Tab) (N : List Str) : Exo → Scope → List Expr → Bool
  | .none, _, ps => ps.isEmpty
  | .some e, sc, ps => (match ps with
    | [q] => ckT T N e sc q
    | _ => false)
termination_by structural e => e
def ckI (T : Tab) (N : List Str) : Itx → Scope → Expr → Expr → Bool
  | .seq e, sc, _, p => notSet p && ckE T N e sc p
  | .rng1 a, sc, _, p => (match p with
    | .Call (.Name x _) [q] [] _ => decide (x = ("range" : Str)) && ((isG sc x && decide (x ∈ T.free)) && (notStar q && ckE T N a sc q))
    | _ => false)
  | .rng2 a b, sc, _, p => (match p with
    | .Call (.Name x _) [q, r] [] _ => decide (x = ("range" : Str)) && ((isG sc x && decide (x ∈ T.free)) && ((notStar q && notStar r) && (ckE T N a sc q && ckE T N b sc r)))
    | _ => false)
  | .rng3 a b c, sc, _, p => (match p with
    | .Call (.Name x _) [q, r, u] [] _ => decide (x = ("range" : Str)) && ((isG sc x && decide (x ∈ T.free)) && ((notStar q && (notStar r && notStar u)) && (ckE T N a sc q && (ckE T N b sc r && ckE T N c sc u))))
    | _ => false)
  | .zip a b, sc, t, p => (match p, t with
    | .Call (.Name x _) [q, r] [] _, .Tuple _ _ _ => decide (x = ("zip" : Str)) && ((isG sc x && decide (x ∈ T.free)) && ((notStar q && notStar r) && (ckE T N a sc q && ckE T N b sc r)))
    | _, _ => false)
  | .enum a, sc, t, p => (match p, t with
    | .Call (.Name x _) [q] [] _, .Tuple _ _ _ => decide (x = ("enumerate" : Str)) && ((isG sc x && decide (x ∈ T.free)) && (notStar q && ckE T N a sc q))
    | _, _ => false)
termination_by structural e => e
end
end RF
end
section
set_option Elab.async false
set_option linter.all false
set_option maxRecDepth 100000
set_option maxHeartbeats 4000000
/-! The checker is right: expressions. -/
namespace RF
open PySem PySem.Spec PyProof.Rows L2
variable {X : Cx} {Wx : WX} {T : Tab} {k : Nat} {sc : Scope} {N : List Str}
theorem an {a b : Bool} (h : (a && b) = true) : a = true ∧ b = true := Bool.and_eq_true_iff.mp h
theorem isG_ok {x : Str} (h : isG sc x = true) : sc.names.lookup x = some .globalImplicit ∧ (x == ("__debug__" : Str)) = false := by
  obtain ⟨h1, h2⟩ := an h
  exact ⟨decT h1, by simpa using h2⟩
theorem isVis_ok {x : Str} (h : isVis sc x = true) : Vis sc x ∧ (x == ("__debug__" : Str)) = false ∧ (x == ("__classdict__" : Str)) = false := by
  obtain ⟨h1, h2⟩ := an h
  obtain ⟨h2, h3⟩ := an h2
  refine ⟨?_, by simpa using h2, by simpa using h3⟩
  simp only [Bool.or_eq_true, decide_eq_true_eq] at h1
  exact h1
mutual
theorem dEq_ok : ∀ {a b : D}, dEq a b = true → a = b
  | .none, b, h => by cases b <;> first | rfl | cases h
  | .bool a, b, h => by cases b <;> first | (cases decT h; rfl) | cases h
  | .int a, b, h => by cases b <;> first | (cases decT h; rfl) | cases h
  | .str a, b, h => by cases b <;> first | (cases decT h; rfl) | cases h
  | .tuple a, b, h => by
    cases b with
    | tuple b =>
      have h : dEqs a b = true := by simpa only [dEq] using h
      rw [dEqs_ok h]
    | _ => simp [dEq] at h
  | .list a, b, h => by cases b <;> simp [dEq] at h
  | .dict a, b, h => by cases b <;> simp [dEq] at h
theorem dEqs_ok : ∀ {a b : List D}, dEqs a b = true → a = b
  | [], [], _ => rfl
  | [], _ :: _, h => by simp [dEqs] at h
  | _ :: _, [], h => by simp [dEqs] at h
  | a :: r, b :: t, h => by
    simp only [dEqs, Bool.and_eq_true] at h
    rw [dEq_ok h.1, dEqs_ok h.2]
end
theorem conIn_ok {x : Str} {d : D} (h : conIn T x d = true) : (x, d) ∈ T.consts := by
  obtain ⟨p, hp, h⟩ := List.any_eq_true.mp h
  obtain ⟨h1, h2⟩ := an h
  have e : p = (x, d) := by
    obtain ⟨a, b⟩ := p
    cases decT h1
    cases dEq_ok h2
    rfl
  rw [← e]; exact hp
theorem own_ix {own : List Nat} {p : Str × Nat} (h : p ∈ ownOf N own) : N[p.2]? = some p.1 := by
  obtain ⟨i, hi, e⟩ := List.mem_filterMap.mp h
  obtain ⟨x, h1, rfl⟩ := Option.map_eq_some_iff.mp e
  exact h1
theorem cst_ok {d : D} {c : Const} {j : Nat} {pos : Pos} {C : Nat → List W → Gs → Out W} (h : cstB d c = true) : PE X (.Constant c j pos) (tE X.K Wx (evE C (.cst d))) := by
  cases d <;> cases c <;> first
    | cases h
    | skip
  case none.none => exact se_flat pe_non (fun _ _ => .non) fun _ _ => by simp only [evE]
  case bool.bool a b => cases decT h; exact se_flat pe_bl (fun _ _ => .bl _) fun _ _ => by simp only [evE]
  case int.int a b => cases decT h; exact se_flat pe_int (fun _ _ => .int _) fun _ _ => by simp only [evE]
  case str.str a b =>
    obtain ⟨h1, h2⟩ := an h
    obtain ⟨h2, h3⟩ := an h2
    cases decT h1
    exact se_flat pe_str (fun _ _ => .str _ h2 (decT h3)) fun _ _ => by simp only [evE]
/-! ### targets -/
mutual
theorem ckG_ok {b : Bool} (cm : X.calm = true) (hN : X.N = N) (nd : N.Nodup) (hs : X.env.scope = sc) (hb : b = true → ∀ x, X.fn x = true) : ∀ (t : Tg) {p : Expr}, ckG N b t sc p = true → PG X p (tG X.K t)
  | .nm i, p, h => by
    simp only [ckG] at h
    split at h
    · rename_i x pos
      obtain ⟨h1, h2⟩ := an h
      refine sg_name (pg_name (by rw [hN]; exact nd) (by rw [hN]; exact decT h1) ?_ ?_)
      · unfold L2.Loc
        rw [hs]
        simp only [Bool.or_eq_true, Bool.and_eq_true, decide_eq_true_eq] at h2
        exact h2.imp id (·.2)
      · rw [hs]
        simp only [Bool.or_eq_true, Bool.and_eq_true, decide_eq_true_eq] at h2
        rcases h2 with h2 | h2
        · exact .inr h2
        · exact .inl (hb h2.1 x)
    · cases h
  | .tup ts, p, h => by
    simp only [ckG] at h
    split at h
    · rename_i ps kk pos
      obtain ⟨h1, h2, h3⟩ := ckGs_ok cm hN nd hs hb ts h
      exact sg_tup cm h1 h2 h3
    · cases h
theorem ckGs_ok {b : Bool} (cm : X.calm = true) (hN : X.N = N) (nd : N.Nodup) (hs : X.env.scope = sc) (hb : b = true → ∀ x, X.fn x = true) : ∀ (ts : Tgs) {ps : List Expr}, ckGs N b ts sc ps = true → PGs X ps (tGs X.K ts) ∧ (assignEach ps X.env).length = tgsLen ts ∧ (assignEach ps X.env).findIdx? (·.1) = none
  | .nil, ps, h => by
    simp only [ckGs] at h
    cases ps with
    | nil => exact ⟨sgs_nil, rfl, rfl⟩
    | cons => cases h
  | .cons t r, ps, h => by
    simp only [ckGs] at h
    split at h
    · rename_i p qs
      obtain ⟨h1, h2⟩ := an h
      obtain ⟨h2, h3⟩ := an h2
      obtain ⟨q1, q2, q3⟩ := ckGs_ok cm hN nd hs hb r h3
      refine ⟨sgs_cons h1 (ckG_ok cm hN nd hs hb t h2) q1, ?_, ?_⟩
      · rw [assignEach_cons h1]
        show (assignEach qs X.env).length + 1 = tgsLen r + 1
        rw [q2]
      · rw [assignEach_cons h1, List.findIdx?_cons]
        simp [q3]
    · cases h
end
/-! ### the context of a block -/
theorem Cok.blk (c : Cok T X k sc N Wx) {scope : Scope} (kd : scope.kind = .function) (s : Shared) (H : Hp) (C : Addr) (cl : List (Str × Addr)) (fp : List Addr) : Cok (T.to Str.empty) (X.blk s H scope (compEnvC scope cl C X.env) fp) k (relS scope sc) N noX where
  g := c.g.less (Nat.le_refl k) Str.empty
  lam := fun _ z => absurd rfl z
  scp := by
    show relS scope X.env.scope = _
    rw [c.scp]
  nm := c.nm
  nd := c.nd
  calm := c.calm
  room := c.room
  tk := fun _ _ x => by
    obtain ⟨_, _, _, _, _, _, _, _, _, _, _, _, _, _, _, _, z⟩ := x
    exact z.elim
  kind := kd
theorem not_set_ok {p : Expr} {env : PySem.Env} (h : notSet p = true) : ∀ x, foldedSetIterable p env x = pure x := by
  intro x
  cases p <;> first
    | rfl
    | cases h
theorem isTrue_plain {p : Expr} {env : PySem.Env} (h : plainT p = true) : ∀ whole, isTrue p env whole = (do let v ← whole; standAt p.pos; holding [v] (truthy v)) := by
  intro whole
  cases p <;> first
    | rfl
    | cases h
theorem pt_pair {X : Cx} {p : Expr} {t : TT} (h : PT X p t) (hp : ∀ op vs pos, p ≠ .BoolOp op vs pos) : PT X p t ∧ ∀ op vs pos, p = .BoolOp op vs pos → PW X p t := ⟨h, fun op vs pos e => absurd e (hp op vs pos)⟩
theorem pw_pair {X : Cx} {p : Expr} {t : TT} (h : PW X p t) : PT X p t ∧ ∀ op vs pos, p = .BoolOp op vs pos → PW X p t := ⟨h.pt, fun _ _ _ _ => h⟩
theorem plain_nb {p : Expr} (h : plainT p = true) : ∀ op vs pos, p ≠ .BoolOp op vs pos := by
  rintro op vs pos rfl
  cases h
theorem joins_cons {K : PySem.W.Frag} {C : Nat → List W → Gs → Out W} {e : Ex} {r : Exs} {ts : List TE} {Wx : WX} (h : ∀ (j : Nat) e t, r.toL[j]? = some e → ts[j]? = some t → t = tE K Wx (evE C e)) :
    ∀ (j : Nat) e' t, (Exs.cons e r).toL[j]? = some e' → (tE K Wx (evE C e) :: ts)[j]? = some t → t = tE K Wx (evE C e') := fun j e' t a b => by
  cases j with
  | zero => cases a; cases b; rfl
  | succ j => exact h j e' t a b
mutual
theorem ckE_ok : ∀ (e : Ex) {T : Tab} {k : Nat} {X : Cx} {sc : Scope} {Wx : WX} (c : Cok T X k sc N Wx) {p : Expr}, ckE T N e sc p = true → PE X p (tE X.K Wx (evE (run T.fns k) e))
  | .var i, T, k, X, sc, Wx, c, p, h => by
    unfold ckE at h
    split at h
    · obtain ⟨h1, h2⟩ := an h
      obtain ⟨v1, v2, v3⟩ := isVis_ok h2
      exact se_var (pe_var (by rw [c.nm]; exact decT h1) (c.vis v1) v2 v3)
    · cases h
  | .cst d, T, k, X, sc, Wx, c, p, h => by
    unfold ckE at h
    split at h
    · exact cst_ok h
    · cases h
  | .glob x d, T, k, X, sc, Wx, c, p, h => by
    unfold ckE at h
    split at h
    · obtain ⟨h1, h2⟩ := an h
      obtain ⟨h2, h3⟩ := an h2
      cases decT h1
      obtain ⟨g1, g2⟩ := isG_ok h2
      obtain ⟨v, u, m, r, f⟩ := c.g.cons x d (conIn_ok h3)
      exact se_flat (pe_glob (c.gl g1) m r g2) f fun _ _ => by simp only [evE]
    · cases h
  | .tup es, T, k, X, sc, Wx, c, p, h => by
    unfold ckE at h
    split at h
    · exact se_tup (ckEs_ok es c h).2.1 (by funext env g; simp only [evE] <;> rfl)
    · cases h
  | .lst es, T, k, X, sc, Wx, c, p, h => by
    unfold ckE at h
    split at h
    · exact se_lst (ckEs_ok es c h).2.1 (by funext env g; simp only [evE] <;> rfl)
    · cases h
  | .frz e, T, k, X, sc, Wx, c, p, h => by
    unfold ckE at h
    exact se_frz (ckE_ok e c h) (by funext env g; simp only [evE] <;> rfl)
  | .bin o a b, T, k, X, sc, Wx, c, p, h => by
    unfold ckE at h
    split at h
    · obtain ⟨h1, h2⟩ := an h
      obtain ⟨h2, h3⟩ := an h2
      cases decT h1
      exact se_bin (ckE_ok a c h2) (ckE_ok b c h3) (by funext env g; simp only [evE] <;> rfl)
    · cases h
  | .adds a i, T, k, X, sc, Wx, c, p, h => by
    unfold ckE at h
    split at h
    · obtain ⟨h1, h2⟩ := an h
      obtain ⟨h2, h3⟩ := an h2
      obtain ⟨h3, h4⟩ := an h3
      obtain ⟨v1, v2, v3⟩ := isVis_ok h4
      cases decT h1
      exact se_adds (ckE_ok a c h2) (pe_var (by rw [c.nm]; exact decT h3) (c.vis v1) v2 v3) (by funext env g; simp only [evE] <;> rfl)
    · cases h
  | .neg a, T, k, X, sc, Wx, c, p, h => by
    unfold ckE at h
    split at h
    · obtain ⟨h1, h2⟩ := an h
      cases decT h1
      exact se_neg (ckE_ok a c h2) (by funext env g; simp only [evE] <;> rfl)
    · cases h
  | .cmp o a b, T, k, X, sc, Wx, c, p, h => by
    unfold ckE at h
    split at h
    · obtain ⟨h1, h2⟩ := an h
      obtain ⟨h2, h3⟩ := an h2
      obtain ⟨h3, h4⟩ := an h3
      cases decT h1
      exact se_cmp c.hu h2 (ckE_ok a c h3) (ckE_ok b c h4) (by funext env g; simp only [evE]; rfl)
    · cases h
  | .chain o o' a b d, T, k, X, sc, Wx, c, p, h => by
    unfold ckE at h
    split at h
    · obtain ⟨h1, h2⟩ := an h
      obtain ⟨h2, h3⟩ := an h2
      obtain ⟨h3, h4⟩ := an h3
      obtain ⟨h4, h5⟩ := an h4
      obtain ⟨h5, h6⟩ := an h5
      have z1 := decT h1
      have z2 := decT h2
      subst z1
      subst z2
      exact se_chain c.hu h3 (ckE_ok a c h4) (ckE_ok b c h5) (ckE_ok d c h6) (by funext env g; simp only [evE]; rfl)
    · cases h
  | .nt a, T, k, X, sc, Wx, c, p, h => by
    unfold ckE at h
    split at h
    · obtain ⟨h1, h2⟩ := an h
      cases decT h1
      exact se_not (ckE_ok a c h2) (by funext env g; simp only [evE] <;> rfl)
    · cases h
  | .bone a, T, k, X, sc, Wx, c, p, h => by
    unfold ckE at h
    split at h
    · have := pe_one (op := ‹BoolOp›) (pos := ‹Pos›) (ckE_ok a c h)
      have e : evE (run T.fns k) (.bone a) = evE (run T.fns k) a := by funext env g; simp only [evE]
      rw [e]
      exact this
    · cases h
  | .land a r, T, k, X, sc, Wx, c, p, h => by
    unfold ckE at h
    split at h
    · obtain ⟨h1, h2⟩ := an h
      obtain ⟨h2, h3⟩ := an h2
      cases decT h1
      exact se_and (ckE_ok a c h2) (ckE_ok r c h3) (by funext env g; simp only [evE] <;> rfl)
    · cases h
  | .lor a r, T, k, X, sc, Wx, c, p, h => by
    unfold ckE at h
    split at h
    · obtain ⟨h1, h2⟩ := an h
      obtain ⟨h2, h3⟩ := an h2
      cases decT h1
      exact se_or (ckE_ok a c h2) (ckE_ok r c h3) (by funext env g; simp only [evE] <;> rfl)
    · cases h
  | .ite q a b, T, k, X, sc, Wx, c, p, h => by
    unfold ckE at h
    split at h
    · obtain ⟨h1, h2⟩ := an h
      obtain ⟨h2, h3⟩ := an h2
      exact se_ite (ckT_ok q c h1).1 (ckE_ok a c h2) (ckE_ok b c h3) (by funext env g; simp only [evE] <;> rfl)
    · cases h
  | .idx a i, T, k, X, sc, Wx, c, p, h => by
    unfold ckE at h
    split at h
    · obtain ⟨h1, h2⟩ := an h
      obtain ⟨h2, h3⟩ := an h2
      exact se_idx h1 (ckE_ok a c h2) (ckE_ok i c h3) (by funext env g; simp only [evE] <;> rfl)
    · cases h
  | .sl a lo hi, T, k, X, sc, Wx, c, p, h => by
    unfold ckE at h
    split at h
    · obtain ⟨h1, h2⟩ := an h
      obtain ⟨h2, h3⟩ := an h2
      exact se_sl (ckE_ok a c h1) (ckO_ok lo c h2) (ckO_ok hi c h3) (by funext env g; simp only [evE] <;> rfl)
    · cases h
  | .call f es, T, k, X, sc, Wx, c, p, h => by
    unfold ckE at h
    split at h
    · rename_i x _ ps _ d e
      obtain ⟨h1, h2⟩ := an h
      obtain ⟨h2, h3⟩ := an h2
      obtain ⟨g1, g2⟩ := isG_ok h2
      obtain ⟨q1, q2, _⟩ := ckEs_ok es c h3
      cases decT h1
      cases ps with
      | nil =>
        refine se_call0 c e g1 g2 ?_
        cases es with
        | nil => funext env g; simp only [evE, evEs]; rfl
        | cons e r => simp only [ckEs] at h3; cases h3
      | cons p qs => exact se_call c e g1 g2 q1 q2 (by funext env g; simp only [evE] <;> rfl)
    · cases h
  | .bi b es, T, k, X, sc, Wx, c, p, h => by
    unfold ckE at h
    split at h
    · split at h
      · obtain ⟨h1, hr1⟩ := an h
        obtain ⟨h2, hr2⟩ := an hr1
        obtain ⟨h3, hr3⟩ := an hr2
        obtain ⟨h4, h5⟩ := an hr3
        obtain ⟨a1, a2⟩ := an h3
        obtain ⟨b1, b2⟩ := an h4
        have z1 := decT h1
        have z2 := decT h2
        subst z1
        subst z2
        obtain ⟨q1, q2, _⟩ := ckEs_ok es c h5
        exact se_sset c (isG_ok a1).1 (decT a2) (isG_ok b1).1 (decT b2) (by simpa using q1) q2 (by funext env g; simp only [evE] <;> rfl)
      · cases h
    · split at h
      · obtain ⟨h1, hr1⟩ := an h
        obtain ⟨h2, hr2⟩ := an hr1
        obtain ⟨h3, hr3⟩ := an hr2
        obtain ⟨h4, h5⟩ := an hr3
        obtain ⟨a1, a2⟩ := an h3
        obtain ⟨b1, b2⟩ := an h4
        have z1 := decT h1
        have z2 := decT h2
        subst z1
        subst z2
        obtain ⟨q1, q2, _⟩ := ckEs_ok es c h5
        exact se_lzip c (isG_ok a1).1 (decT a2) (isG_ok b1).1 (decT b2) q1 q2 (by funext env g; simp only [evE] <;> rfl)
      · cases h
    · split at h
      · obtain ⟨h1, h2⟩ := an h
        obtain ⟨h2, h3⟩ := an h2
        obtain ⟨h3, h4⟩ := an h3
        obtain ⟨a1, a2⟩ := an h3
        cases decT h2
        obtain ⟨q1, q2, _⟩ := ckEs_ok es c h4
        exact se_bi c h1 (isG_ok a1).1 (decT a2) q1 q2 (by funext env g; simp only [evE] <;> rfl)
      · cases h
  | .isi a ts, T, k, X, sc, Wx, c, p, h => by
    unfold ckE at h
    split at h
    · obtain ⟨h1, h2⟩ := an h
      obtain ⟨h2, h3⟩ := an h2
      obtain ⟨h3, h4⟩ := an h3
      obtain ⟨h4, h5⟩ := an h4
      obtain ⟨h5, h6⟩ := an h5
      obtain ⟨a1, a2⟩ := an h3
      obtain ⟨b1, b2⟩ := an h4
      have z1 := decT h1
      have z2 := decT h2
      subst z1
      subst z2
      exact se_isi c (isG_ok a1).1 (decT a2) (isG_ok b1).1 (decT b2) h5 (ckE_ok a c h6) (by funext env g; simp only [evE] <;> rfl)
    · cases h
  | .meth m o e, T, k, X, sc, Wx, c, p, h => by
    unfold ckE at h
    split at h
    · obtain ⟨h1, h2⟩ := an h
      obtain ⟨h2, h3⟩ := an h2
      obtain ⟨h3, h4⟩ := an h3
      obtain ⟨h4, h5⟩ := an h4
      obtain ⟨h5, h6⟩ := an h5
      have z := decT h1
      subst z
      exact se_meth c h2 h3 h4 (ckE_ok o c h5) (ckE_ok e c h6) (by funext env g; simp only [evE] <;> rfl)
    · cases h
  | .fmt e, T, k, X, sc, Wx, c, p, h => by
    unfold ckE at h
    split at h
    · obtain ⟨h1, h2⟩ := an h
      have z := decT h1
      subst z
      exact se_fmt (ckE_ok e c h2) (by funext env g; simp only [evE] <;> rfl)
    · cases h
  | .fstr es, T, k, X, sc, Wx, c, p, h => by
    unfold ckE at h
    split at h
    · obtain ⟨_, _, ts, h1, h2, h3⟩ := ckEs_ok es c h
      exact se_fstr h1 h2 h3 (by funext env g; simp only [evE] <;> rfl) fun acc env g z g1 => evJ_ok es acc env g z g1
    · cases h
  | .dead, T, k, X, sc, Wx, c, p, h => se_dead (by funext env g; simp only [evE])
  | .tryc f es, T, k, X, sc, Wx, c, p, h => by
    unfold ckE at h
    split at h
    · rename_i x px as y py qs pq scope pl pp d e
      simp only [Bool.and_eq_true] at h
      obtain ⟨h1, h2, h3, h4, ⟨h5, h6⟩, h7, h8, h9, h10⟩ := h
      have z1 := decT h1
      subst z1
      have z2 := decT h8
      subst z2
      have ea := argsOk_eq h5
      rw [List.isEmpty_iff.mp h6] at ea
      subst ea
      refine se_try (i := f) (es := es) c (decT h2) (by simpa using h3) (isG_ok h4).1 h7 (fun {Y Wy} j cy => ?_) (by funext env g; simp only [evE] <;> rfl)
      obtain ⟨g1, g2⟩ := isG_ok h9
      obtain ⟨q1, q2, _⟩ := ckEs_ok es cy h10
      cases qs with
      | nil =>
        refine se_call0 cy e g1 g2 ?_
        cases es with
        | nil => funext env g; simp only [evEs]; rfl
        | cons e r => simp only [ckEs] at h10; cases h10
      | cons p0 qs => exact se_call cy e g1 g2 q1 q2 rfl
    · cases h
  | .lc elt tg it ifs own, T, k, X, sc, Wx, c, p, h => by
    unfold ckE at h
    split at h
    · rename_i q t iter fs as scope pos
      obtain ⟨h1, h2⟩ := an h
      obtain ⟨h2, h3⟩ := an h2
      obtain ⟨h3, h4⟩ := an h3
      obtain ⟨h4, h5⟩ := an h4
      obtain ⟨h5, h6⟩ := an h5
      obtain ⟨h6, h7⟩ := an h6
      obtain ⟨h7, h8⟩ := an h7
      cases decT h1
      obtain ⟨i1, i2⟩ := ckI_ok it c h2
      have ok : BlkOk X.N X.env.scope _ (ownOf N own) := blkOk_by (by rw [c.nm, c.scp]; exact h3)
      have ho : (ownOf N own).map (·.2) = own := decT h4
      refine (pe_lc (g := tG X.K tg) (tt := tT X.K noX (evTo (run T.fns k) ifs)) (te := tE X.K noX (evE (run T.fns k) elt)) c.calm (by rw [c.nm]; exact c.nd) i1 ok (fun s H C cl fp => ckG_ok (X := X.blk s H scope (compEnvC scope cl C X.env) fp) (sc := relS scope sc) (b := false) c.calm c.nm c.nd (c.blk ok.kind s H C cl fp).scp (fun z => Bool.noConfusion z) tg h6)
        (fun s H C cl fp => ckTo_ok ifs (c.blk ok.kind s H C cl fp) h7) (fun s H C cl fp => ckE_ok elt (c.blk ok.kind s H C cl fp) h8) (not_set_ok i2)).imp fun σ H Q q => ?_
      rw [ho]
      exact lc_read (fun i hi => decT (List.all_eq_true.mp h5 i hi)) (by funext env g; simp only [evE] <;> rfl) q
    · cases h
theorem ckT_ok : ∀ (e : Ex) {T : Tab} {k : Nat} {X : Cx} {sc : Scope} {Wx : WX} (c : Cok T X k sc N Wx) {p : Expr}, ckT T N e sc p = true → PT X p (tT X.K Wx (evT (run T.fns k) e)) ∧ ∀ op vs pos, p = .BoolOp op vs pos → PW X p (tT X.K Wx (evT (run T.fns k) e))
  | .nt a, T, k, X, sc, Wx, c, p, h => by
    unfold ckT at h
    split at h
    · obtain ⟨h1, h2⟩ := an h
      cases decT h1
      exact pt_pair (st_not (ckT_ok a c h2).1 (by funext env g; simp only [evT] <;> rfl)) (fun _ _ _ z => nomatch z)
    · cases h
  | .bone a, T, k, X, sc, Wx, c, p, h => by
    unfold ckT at h
    split at h
    · have := sw_one (op := ‹BoolOp›) (pos := ‹Pos›) (ckT_ok a c h).1
      have e : evT (run T.fns k) (.bone a) = evT (run T.fns k) a := by funext env g; simp only [evT]
      rw [e]
      exact pw_pair this
    · cases h
  | .land a r, T, k, X, sc, Wx, c, p, h => by
    unfold ckT at h
    split at h
    · obtain ⟨h1, h2⟩ := an h
      obtain ⟨h2, h3⟩ := an h2
      cases decT h1
      exact pw_pair (sw_and (ckT_ok a c h2).1 ((ckT_ok r c h3).2 _ _ _ rfl) (by funext env g; simp only [evT] <;> rfl))
    · cases h
  | .lor a r, T, k, X, sc, Wx, c, p, h => by
    unfold ckT at h
    split at h
    · obtain ⟨h1, h2⟩ := an h
      obtain ⟨h2, h3⟩ := an h2
      cases decT h1
      exact pw_pair (sw_or (ckT_ok a c h2).1 ((ckT_ok r c h3).2 _ _ _ rfl) (by funext env g; simp only [evT] <;> rfl))
    · cases h
  | .cmp o a b, T, k, X, sc, Wx, c, p, h => by
    unfold ckT at h
    split at h
    · obtain ⟨h1, h2⟩ := an h
      obtain ⟨h2, h3⟩ := an h2
      obtain ⟨h3, h4⟩ := an h3
      cases decT h1
      exact pt_pair (st_cmp c.hu h2 (ckE_ok a c h3) (ckE_ok b c h4) (by funext env g; simp only [evT]; rfl)) (fun _ _ _ z => nomatch z)
    · cases h
  | .chain o o' a b d, T, k, X, sc, Wx, c, p, h => by
    unfold ckT at h
    split at h
    · obtain ⟨h1, h2⟩ := an h
      obtain ⟨h2, h3⟩ := an h2
      obtain ⟨h3, h4⟩ := an h3
      obtain ⟨h4, h5⟩ := an h4
      obtain ⟨h5, h6⟩ := an h5
      have z1 := decT h1
      have z2 := decT h2
      subst z1
      subst z2
      exact pt_pair (st_chain c.hu h3 (ckE_ok a c h4) (ckE_ok b c h5) (ckE_ok d c h6) (by funext env g; simp only [evT]; rfl)) (fun _ _ _ z => nomatch z)
    · cases h
  | .var i, T, k, X, sc, Wx, c, p, h => by
    unfold ckT at h
    obtain ⟨hp, h⟩ := an h
    exact pt_pair (st_val (ckE_ok (.var i) c (by unfold ckE; exact h)) (by funext env g; simp only [evE, evT]; cases env[i]? with | none => rfl | some w => cases w <;> rfl) (isTrue_plain hp)) (plain_nb hp)
  | .cst d, T, k, X, sc, Wx, c, p, h => by
    unfold ckT at h
    obtain ⟨hp, h⟩ := an h
    exact pt_pair (st_val (ckE_ok (.cst d) c (by unfold ckE; exact h)) (by funext env g; simp only [evE, evT]; rfl) (isTrue_plain hp)) (plain_nb hp)
  | .idx a i, T, k, X, sc, Wx, c, p, h => by
    unfold ckT at h
    obtain ⟨hp, h⟩ := an h
    split at h
    · obtain ⟨h1, h2⟩ := an h
      obtain ⟨h2, h3⟩ := an h2
      refine pt_pair (st_val (se_idx (F := evE (run T.fns k) (.idx a i)) h1 (ckE_ok a c h2) (ckE_ok i c h3) (by funext env g; simp only [evE] <;> rfl)) ?_ (isTrue_plain hp)) (plain_nb hp)
      funext env g
      simp only [evE, evT]
      cases evE (run T.fns k) a env g with
      | ok x g1 =>
        simp only [Out.bind_ok]
        cases evE (run T.fns k) i env g1 with
        | ok y g2 =>
          simp only [Out.bind_ok]
          cases peek g2 x with
          | none => rfl
          | some x' =>
            cases peek g2 y with
            | none => rfl
            | some y' =>
              simp only [Out.ofO_some, Out.bind_ok]
              cases idxD x' y' <;> rfl
        | exc => rfl
        | no => rfl
      | exc => rfl
      | no => rfl
    · cases h
  | .call f es, T, k, X, sc, Wx, c, p, h => by
    unfold ckT at h
    obtain ⟨hp, h⟩ := an h
    have hE : evT (run T.fns k) (.call f es) = fun env g => (evE (run T.fns k) (.call f es) env g).bind fun w g1 => asB g1 w := by
      funext env g
      simp only [evE, evT]
      cases evEs (run T.fns k) es env g <;> rfl
    split at h
    · rename_i x _ ps _ d e _
      obtain ⟨h1, h2⟩ := an h
      obtain ⟨h2, h3⟩ := an h2
      obtain ⟨g1, g2⟩ := isG_ok h2
      obtain ⟨q1, q2, _⟩ := ckEs_ok es c h3
      cases decT h1
      cases ps with
      | nil =>
        refine pt_pair (st_val (se_call0 (F := evE (run T.fns k) (.call f es)) c e g1 g2 ?_) hE (isTrue_plain hp)) (plain_nb hp)
        cases es with
        | nil => funext env g; simp only [evE, evEs]; rfl
        | cons e r => simp only [ckEs] at h3; cases h3
      | cons p qs => exact pt_pair (st_val (se_call (F := evE (run T.fns k) (.call f es)) c e g1 g2 q1 q2 (by funext env g; simp only [evE] <;> rfl)) hE (isTrue_plain hp)) (plain_nb hp)
    · cases h
  | .bi b es, T, k, X, sc, Wx, c, p, h => by
    unfold ckT at h
    obtain ⟨hp, h⟩ := an h
    split at h
    · obtain ⟨h1, h2⟩ := an h
      obtain ⟨h2, h3⟩ := an h2
      obtain ⟨h3, h4⟩ := an h3
      obtain ⟨a1, a2⟩ := an h3
      cases decT h2
      obtain ⟨q1, q2, _⟩ := ckEs_ok es c h4
      refine pt_pair (st_val (se_bi (F := evE (run T.fns k) (.bi b es)) c h1 (isG_ok a1).1 (decT a2) q1 q2 (by funext env g; simp only [evE] <;> rfl)) ?_ (isTrue_plain hp)) (plain_nb hp)
      funext env g
      simp only [evE, evT]
      cases evEs (run T.fns k) es env g with
      | ok ws g1 =>
        simp only [Out.bind_ok]
        cases peeks g1 ws with
        | none => rfl
        | some xs => rfl
      | exc => rfl
      | no => rfl
    · cases h
  | .isi a ts, T, k, X, sc, Wx, c, p, h => by
    unfold ckT at h
    obtain ⟨hp, h⟩ := an h
    split at h
    · obtain ⟨h1, h2⟩ := an h
      obtain ⟨h2, h3⟩ := an h2
      obtain ⟨h3, h4⟩ := an h3
      obtain ⟨h4, h5⟩ := an h4
      obtain ⟨h5, h6⟩ := an h5
      obtain ⟨a1, a2⟩ := an h3
      obtain ⟨b1, b2⟩ := an h4
      have z1 := decT h1
      have z2 := decT h2
      subst z1
      subst z2
      refine pt_pair (st_val (se_isi (F := evE (run T.fns k) (.isi a [_])) c (isG_ok a1).1 (decT a2) (isG_ok b1).1 (decT b2) h5 (ckE_ok a c h6) (by funext env g; simp only [evE] <;> rfl)) ?_ (isTrue_plain hp)) (plain_nb hp)
      funext env g
      simp only [evE, evT]
      cases evE (run T.fns k) a env g with
      | ok x g1 =>
        simp only [Out.bind_ok]
        cases peek g1 x <;> rfl
      | exc => rfl
      | no => rfl
    · cases h
  | .glob _ _, _, _, _, _, _, _, _, h => by unfold ckT at h; cases h
  | .tup _, _, _, _, _, _, _, _, h => by unfold ckT at h; cases h
  | .lst _, _, _, _, _, _, _, _, h => by unfold ckT at h; cases h
  | .frz _, _, _, _, _, _, _, _, h => by unfold ckT at h; cases h
  | .bin _ _ _, _, _, _, _, _, _, _, h => by unfold ckT at h; cases h
  | .adds _ _, _, _, _, _, _, _, _, h => by unfold ckT at h; cases h
  | .neg _, _, _, _, _, _, _, _, h => by unfold ckT at h; cases h
  | .ite _ _ _, _, _, _, _, _, _, _, h => by unfold ckT at h; cases h
  | .sl _ _ _, _, _, _, _, _, _, _, h => by unfold ckT at h; cases h
  | .lc _ _ _ _ _, _, _, _, _, _, _, _, h => by unfold ckT at h; cases h
  | .meth _ _ _, _, _, _, _, _, _, _, h => by unfold ckT at h; cases h
  | .fmt _, _, _, _, _, _, _, _, h => by unfold ckT at h; cases h
  | .fstr _, _, _, _, _, _, _, _, h => by unfold ckT at h; cases h
  | .dead, _, _, _, _, _, _, _, h => by unfold ckT at h; cases h
  | .tryc _ _, _, _, _, _, _, _, _, h => by unfold ckT at h; cases h
theorem ckEs_ok : ∀ (es : Exs) {T : Tab} {k : Nat} {X : Cx} {sc : Scope} {Wx : WX} (c : Cok T X k sc N Wx) {ps : List Expr}, ckEs T N es sc ps = true → ps.all notStar = true ∧ PA X ps (tA X.K Wx (evEs (run T.fns k) es)) ∧ ∃ ts : List TE, PJ X ps ts ∧ es.toL.length = ts.length ∧ ∀ (j : Nat) e t, es.toL[j]? = some e → ts[j]? = some t → t = tE X.K Wx (evE (run T.fns k) e)
  | .nil, T, k, X, sc, Wx, c, ps, h => by
    unfold ckEs at h
    cases ps with
    | nil => exact ⟨rfl, sa_nil (by funext env g; simp only [evEs] <;> rfl), [], .nil, rfl, fun j e t h => by cases h⟩
    | cons => cases h
  | .cons e r, T, k, X, sc, Wx, c, ps, h => by
    unfold ckEs at h
    split at h
    · obtain ⟨h1, h2⟩ := an h
      obtain ⟨h2, h3⟩ := an h2
      obtain ⟨q1, q2, ts, j1, j2, j3⟩ := ckEs_ok r c h3
      have he := ckE_ok e c h2
      exact ⟨by rw [List.all_cons, h1, q1]; rfl, sa_cons h1 he q2 (by funext env g; simp only [evEs] <;> rfl), _ :: ts, .cons he j1, congrArg (· + 1) j2, joins_cons j3⟩
    · cases h
theorem ckO_ok : ∀ (e : Exo) {T : Tab} {k : Nat} {X : Cx} {sc : Scope} {Wx : WX} (c : Cok T X k sc N Wx) {p : Option Expr}, ckO T N e sc p = true → PO X p (tO X.K Wx (evO (run T.fns k) e))
  | .none, T, k, X, sc, Wx, c, p, h => by
    unfold ckO at h
    cases p with
    | none => exact so_none (by funext env g; simp only [evO] <;> rfl)
    | some => cases h
  | .some e, T, k, X, sc, Wx, c, p, h => by
    unfold ckO at h
    split at h
    · exact so_some (ckE_ok e c h) (by funext env g; simp only [evO] <;> rfl)
    · cases h
theorem ckTo_ok : ∀ (e : Exo) {T : Tab} {k : Nat} {X : Cx} {sc : Scope} {Wx : WX} (c : Cok T X k sc N Wx) {ps : List Expr}, ckTo T N e sc ps = true → PTs X ps (tT X.K Wx (evTo (run T.fns k) e))
  | .none, T, k, X, sc, Wx, c, ps, h => by
    unfold ckTo at h
    cases ps with
    | nil =>
      refine ⟨fun pins s σ H Q I ⟨env, g, μ, P, r, er, q⟩ => (pts_nil (X := X)).run pins s σ H Q I ?_⟩
      simp only [evTo] at q
      exact (show PostT X.K H μ P Q true g from q) H μ r .refl
    | cons => cases h
  | .some e, T, k, X, sc, Wx, c, ps, h => by
    unfold ckTo at h
    split at h
    · have e2 : evTo (run T.fns k) (.some e) = evT (run T.fns k) e := by funext env g; simp only [evTo]
      rw [e2]
      exact pts_one (ckT_ok e c h).1
    · cases h
theorem ckI_ok : ∀ (e : Itx) {T : Tab} {k : Nat} {X : Cx} {sc : Scope} {Wx : WX} (c : Cok T X k sc N Wx) {t p : Expr}, ckI T N e sc t p = true → PI X t p (tI X.K Wx (evI (run T.fns k) e)) ∧ notSet p = true
  | .seq e, T, k, X, sc, Wx, c, t, p, h => by
    unfold ckI at h
    obtain ⟨h1, h2⟩ := an h
    exact ⟨si_seq (ckE_ok e c h2) (by funext env g; simp only [evI] <;> rfl), h1⟩
  | .rng1 a, T, k, X, sc, Wx, c, t, p, h => by
    unfold ckI at h
    split at h
    · obtain ⟨h1, h2⟩ := an h
      obtain ⟨h2, h3⟩ := an h2
      obtain ⟨h3, h4⟩ := an h3
      obtain ⟨a1, a2⟩ := an h2
      cases decT h1
      exact ⟨si_rng1 c (isG_ok a1).1 (decT a2) h3 (ckE_ok a c h4) (by funext env g; simp only [evI] <;> rfl), rfl⟩
    · cases h
  | .rng2 a b, T, k, X, sc, Wx, c, t, p, h => by
    unfold ckI at h
    split at h
    · obtain ⟨h1, h2⟩ := an h
      obtain ⟨h2, h3⟩ := an h2
      obtain ⟨h3, h4⟩ := an h3
      obtain ⟨a1, a2⟩ := an h2
      obtain ⟨b1, b2⟩ := an h3
      obtain ⟨h4, h5⟩ := an h4
      cases decT h1
      exact ⟨si_rng2 c (isG_ok a1).1 (decT a2) b1 b2 (ckE_ok a c h4) (ckE_ok b c h5) (by funext env g; simp only [evI] <;> rfl), rfl⟩
    · cases h
  | .rng3 a b d, T, k, X, sc, Wx, c, t, p, h => by
    unfold ckI at h
    split at h
    · obtain ⟨h1, h2⟩ := an h
      obtain ⟨h2, h3⟩ := an h2
      obtain ⟨h3, h4⟩ := an h3
      obtain ⟨a1, a2⟩ := an h2
      obtain ⟨b1, b2⟩ := an h3
      obtain ⟨b2, b3⟩ := an b2
      obtain ⟨h4, h5⟩ := an h4
      obtain ⟨h5, h6⟩ := an h5
      cases decT h1
      exact ⟨si_rng3 c (isG_ok a1).1 (decT a2) b1 b2 b3 (ckE_ok a c h4) (ckE_ok b c h5) (ckE_ok d c h6) (by funext env g; simp only [evI] <;> rfl), rfl⟩
    · cases h
  | .zip a b, T, k, X, sc, Wx, c, t, p, h => by
    unfold ckI at h
    split at h
    · obtain ⟨h1, h2⟩ := an h
      obtain ⟨h2, h3⟩ := an h2
      obtain ⟨h3, h4⟩ := an h3
      obtain ⟨a1, a2⟩ := an h2
      obtain ⟨b1, b2⟩ := an h3
      obtain ⟨h4, h5⟩ := an h4
      cases decT h1
      exact ⟨si_zip c (isG_ok a1).1 (decT a2) b1 b2 (ckE_ok a c h4) (ckE_ok b c h5) (by funext env g; simp only [evI] <;> rfl), rfl⟩
    · cases h
  | .enum a, T, k, X, sc, Wx, c, t, p, h => by
    unfold ckI at h
    split at h
    · obtain ⟨h1, h2⟩ := an h
      obtain ⟨h2, h3⟩ := an h2
      obtain ⟨h3, h4⟩ := an h3
      obtain ⟨a1, a2⟩ := an h2
      cases decT h1
      exact ⟨si_enumA c (isG_ok a1).1 (decT a2) h3 (ckE_ok a c h4) (by funext env g; simp only [evI] <;> rfl), rfl⟩
    · cases h
end
end RF
end
section
set_option Elab.async false
set_option linter.all false
set_option maxRecDepth 100000
set_option maxHeartbeats 4000000
/-! The checker for statements. -/
namespace RF
open PySem PySem.Spec PyProof.Rows L2

def notComp : Expr → Bool
  | .ListComp .. => false
  | .SetComp .. => false
  | .DictComp .. => false
  | _ => true
def notTup : Expr → Bool
  | .Tuple .. => false
  | _ => true
/-- a store of a comprehension swaps: on one line, to a local name -/
def swB (sc : Scope) (x : Str) (xp : Pos) : Expr → Option Bool
  | .ListComp _ _ s p => some (decide (sc.names.lookup x = some .local) && (xp.line == p.line && !(s.names.any fun (n, k) => n == x && (k == .local || k == .cell))))
  | .SetComp .. => none
  | .DictComp .. => none
  | _ => some false
def swS (sc : Scope) (ts vs : List Expr) : Option (Option (List Str)) :=
  if !(ts.length == 2 || ts.length == 3) || vs.length != ts.length then some none else
  if vs.any (fun | .Starred .. => true | _ => false) then some none else
  let line := (ts.head?.map (·.pos.line)).getD 0
  let names := ts.filterMap fun
    | .Name id pos => if sc.names.lookup id == some .local && pos.line == line then some id else none
    | _ => none
  if names.length != ts.length || names.eraseDups.length != names.length then some none else
  if vs.all (foldedForSure 8) then some none else
  if vs.all (constantsAlone 8) then none else some (some names)
def isLcE : Ex → Bool
  | .lc .. => true
  | .frz e => (match e with
    | .lc .. => true
    | _ => false)
  | _ => false
def isLoc (sc : Scope) (x : Str) : Bool := decide (sc.names.lookup x = some .local) || decide (sc.names.lookup x = some .cell)
def parN (N : List Str) (sc : Scope) : List Nat → List Expr → Bool
  | [], ts => ts.isEmpty
  | i :: is, ts => (match ts with
    | .Name x _ :: r => (decide (N[i]? = some x) && isLoc sc x) && parN N sc is r
    | _ => false)
def plainO : Expr → Bool
  | .Name .. => true
  | .Subscript .. => true
  | _ => false
mutual
def ckS (T : Tab) (N : List Str) : St → Scope → Stmt → Bool
  | .set t e, sc, p => (match p with
    | .Assign [.Name x xp] v _ => (match t with
      | .nm i => (decide (N[i]? = some x) && isLoc sc x) && ((match swB sc x xp v with
        | some true => isLcE e
        | some false => true
        | none => false) && ckE T N e sc v)
      | _ => false)
    | .Assign [.Tuple ps kk tp] v _ => notTup v && (ckG N true t sc (.Tuple ps kk tp) && ckE T N e sc v)
    | _ => false)
  | .par is es, sc, p => (match p with
    | .Assign [.Tuple ts _ _] (.Tuple vs _ _) _ => (match swS sc ts vs with
      | none => false
      | some none => parN N sc is ts && (ckEs T N es sc vs && (decide (is.length ≤ 30) && !is.isEmpty))
      | some (some nm) => (match is, ts, vs with
        | [i, j], [.Name x _, .Name y _], [_, _] => decide (nm = [x, y]) && (decide (i ≠ j) && ((decide (N[i]? = some x) && decide (sc.names.lookup x = some .local)) && ((decide (N[j]? = some y) && decide (sc.names.lookup y = some .local)) && ckEs T N es sc vs)))
        | [i, j, l], [.Name x _, .Name y _, .Name z _], [_, _, _] => decide (nm = [x, y, z]) && ((decide (i ≠ j) && (decide (i ≠ l) && decide (j ≠ l))) && ((decide (N[i]? = some x) && decide (sc.names.lookup x = some .local)) && ((decide (N[j]? = some y) && decide (sc.names.lookup y = some .local)) && ((decide (N[l]? = some z) && decide (sc.names.lookup z = some .local)) && ckEs T N es sc vs))))
        | _, _, _ => false))
    | _ => false)
  | .setix o i e, sc, p => (match p with
    | .Assign [.Subscript q r _] v _ => notSlice r && (ckE T N o sc q && (ckE T N i sc r && ckE T N e sc v))
    | _ => false)
  | .aug i o e, sc, p => (match p with
    | .AugAssign (.Name x _) op v _ => (match o with
      | .add => true
      | .sub => true
      | _ => false) && (decide (op = boOp o) && ((decide (N[i]? = some x) && isLoc sc x) && ckE T N e sc v))
    | _ => false)
  | .ext i e, sc, p => (match p with
    | .AugAssign (.Name x _) op v _ => decide (op = .Add) && ((decide (N[i]? = some x) && isLoc sc x) && ckE T N e sc v)
    | _ => false)
  | .ex e, sc, p => (match p with
    | .Expr v _ => notComp v && ckE T N e sc v
    | _ => false)
  | .app o e, sc, p => (match p with
    | .Expr (.Call (.Attribute q a apos) [v] [] cpos) _ => decide (a = ("append" : Str)) && ((apos.endLine == cpos.line) && (plainO q && (notStar v && (ckE T N o sc q && ckE T N e sc v))))
    | _ => false)
  | .ite c a b, sc, p => (match p with
    | .If q l r _ => ckT T N c sc q && (ckSs T N a sc l && ckSs T N b sc r)
    | _ => false)
  | .for_ t it b, sc, p => (match p with
    | .For tg iter body [] _ => ckG N true t sc tg && (ckI T N it sc tg iter && ckSs T N b sc body)
    | _ => false)
  | .whl c b, sc, p => (match p with
    | .While q body [] _ => ckT T N c sc q && ckSs T N b sc body
    | _ => false)
  | .ret e, sc, p => (match p with
    | .Return (some v) _ => ckE T N e sc v
    | _ => false)
  | .raise cl _, sc, p => (match p with
    | .Raise (some (.Call (.Name x _) [.Constant (.str _) _ _] [] _)) none _ => decide (cl = x) && (isG sc x && (decide (x ∈ T.excs) && decide (x ∈ excN)))
    | _ => false)
  | .dead, _, _ => true
  | .doc, _, p => (match p with
    | .Expr (.Constant (.str _) _ _) _ => true
    | .Pass _ => true
    | _ => false)
  | .frzv _, _, _ => false
termination_by structural s => s
def ckSs (T : Tab) (N : List Str) : Sts → Scope → List Stmt → Bool
  | .nil, _, ps => ps.isEmpty
  | .cons s r, sc, ps => (match s with
    | .frzv _ => ckSs T N r sc ps
    | _ => (match ps with
      | p :: qs => ckS T N s sc p && ckSs T N r sc qs
      | [] => false))
termination_by structural s => s
end

variable {X : Cx} {Wx : WX} {T : Tab} {k : Nat} {sc : Scope} {N : List Str}
theorem blockK {env : PySem.Env} (hs : env.scope = sc) (kd : sc.kind = .function) : env.blockKind = .function := by
  unfold Env.blockKind
  rw [hs, kd]; rfl
theorem swB_ok {env : PySem.Env} (hs : env.scope = sc) (kd : sc.kind = .function) {x : Str} {xp : Pos} {v : Expr} {b : Bool} {l : Nat} (h : swB sc x xp v = some b) : swapsWith v (some (.Name x xp)) l env = pure b := by
  have hk : ∀ y, env.kindOf y = sc.names.lookup y := fun y => by unfold Env.kindOf; rw [hs]
  cases v <;> first
    | (cases h; rfl; done)
    | skip
  case ListComp q gs s p =>
    have h := Option.some.inj (show some _ = some b from h)
    unfold swapsWith
    simp only [blockK hs kd, hk]
    rw [← h]
    show pure _ = pure _
    congr 1
    simp only [beq_self_eq_true, Bool.true_and, Bool.and_assoc, Expr.pos]
    congr 1
    by_cases e : sc.names.lookup x = some .local
    · rw [e]; rfl
    · rw [decide_eq_false e]
      cases q : sc.names.lookup x with
      | none => rfl
      | some kk => cases kk <;> first | rfl | exact absurd q e
  case SetComp => cases h
  case DictComp => cases h
theorem swS_ok {env : PySem.Env} (hs : env.scope = sc) (kd : sc.kind = .function) {ts vs : List Expr} {k1 k2 : Nat} {p1 p2 : Pos} {r : Option (List Str)} (h : swS sc ts vs = some r) : swappedStores [.Tuple ts k1 p1] (.Tuple vs k2 p2) env = pure r := by
  have hk : ∀ y, env.kindOf y = sc.names.lookup y := fun y => by unfold Env.kindOf; rw [hs]
  have hb : (env.blockKind != .function) = false := by rw [blockK hs kd]; rfl
  unfold swappedStores
  unfold swS at h
  dsimp only at h
  simp only [hk, hb, Bool.or_false]
  split at h
  · rename_i c
    cases h
    simp only [c, if_true]
  · rename_i c
    refine (if_neg c).trans ?_
    split at h
    · rename_i c2
      cases h
      exact if_pos c2
    · rename_i c2
      refine (if_neg c2).trans ?_
      split at h
      · rename_i c3
        cases h
        exact if_pos c3
      · rename_i c3
        refine (if_neg c3).trans ?_
        split at h
        · rename_i c4
          cases h
          exact if_pos c4
        · rename_i c4
          refine (if_neg c4).trans ?_
          split at h
          · cases h
          · rename_i c5
            cases h
            exact if_neg c5
end RF
end
section
set_option Elab.async false
set_option linter.all false
set_option maxRecDepth 100000
set_option maxHeartbeats 4000000
/-! The checker is right: statements. -/
namespace RF
open PySem PySem.Spec PyProof.Rows L2
variable {X : Cx} {Wx : WX} {T : Tab} {k : Nat} {sc : Scope} {N : List Str}

theorem frz_read {K : PySem.W.Frag} {f F : Env → Gs → Out W} (hF : F = fun env g => (f env g).bind fun w g1 => freezeAt g.length g1 w) {σ : L2.St} {H : Hp} {Q : VK} (h : tE K Wx F σ H Q) : tE K Wx f σ H Q := by
  subst hF
  obtain ⟨env, g, μ, P, r, er, q⟩ := h
  refine ⟨env, g, μ, P, r, er, q.bind.mono (fun w g1 q v H1 μ1 r1 e1 h1 => ?_) fun _ _ z => z⟩
  cases e : freezeAt g.length g1 w with
  | ok w2 g2 =>
    rw [e] at q
    obtain ⟨μ2, r2, e2, h2⟩ := freeze_ok r r1 e1 h1 e
    exact q v H1 μ2 r2 e2 h2
  | exc x g2 =>
    exfalso
    cases w with
    | d x => cases e
    | scr ns => cases e
    | ref m => simp only [freezeAt] at e; split at e <;> (try split at e) <;> cases e
  | no => rw [e] at q; exact q.elim
/-- a comprehension stored on its own line -/
theorem lc_set (c : Cok T X k sc N Wx) {elt : Ex} {tg : Tg} {it : Itx} {ifs : Exo} {own : List Nat} {p : Expr} {i : Nat} {y : Str} {py spos : Pos} (h : ckE T N (.lc elt tg it ifs own) sc p = true) (hy : N[i]? = some y) (hyl : sc.names.lookup y = some .local)
    (hsw : swapsWith p (some (.Name y py)) spos.line X.env = pure true) : PS X (.Assign [.Name y py] p spos) (tAsg (tE X.K Wx (evE (run T.fns k) (.lc elt tg it ifs own))) (gName i)) := by
  unfold ckE at h
  split at h
  · rename_i q t iter fs as scope pos
    obtain ⟨h1, h2⟩ := an h
    obtain ⟨h2, h3⟩ := an h2
    obtain ⟨h3, h4⟩ := an h3
    obtain ⟨h4, h5⟩ := an h4
    obtain ⟨h5, h6⟩ := an h5
    obtain ⟨h6, h7⟩ := an h6
    obtain ⟨h7, h8⟩ := an h7
    cases decT h1
    obtain ⟨i1, i2⟩ := ckI_ok it c h2
    have ok : BlkOk X.N X.env.scope _ (ownOf N own) := blkOk_by (by rw [c.nm, c.scp]; exact h3)
    have ho : (ownOf N own).map (·.2) = own := decT h4
    refine (ps_setLc (g := tG X.K tg) (tt := tT X.K noX (evTo (run T.fns k) ifs)) (te := tE X.K noX (evE (run T.fns k) elt)) c.calm (by rw [c.nm]; exact c.nd) (by rw [c.nm]; exact hy) (by rw [c.scp]; exact hyl) hsw i1 ok
      (fun s H C cl fp => ckG_ok (X := X.blk s H scope (compEnvC scope cl C X.env) fp) (sc := relS scope sc) (b := false) c.calm c.nm c.nd (c.blk ok.kind s H C cl fp).scp (fun z => Bool.noConfusion z) tg h6)
      (fun s H C cl fp => ckTo_ok ifs (c.blk ok.kind s H C cl fp) h7) (fun s H C cl fp => ckE_ok elt (c.blk ok.kind s H C cl fp) h8) (not_set_ok i2)).imp fun D σ H q => ?_
    show tLc _ _ _ _ _ _ _ _
    rw [ho]
    exact lc_read (fun i hi => decT (List.all_eq_true.mp h5 i hi)) (by funext env g; simp only [evE] <;> rfl) q
  · cases h
theorem isLoc_ok {x : Str} (hs : X.env.scope = sc) (h : isLoc sc x = true) : L2.Loc X.env.scope x := by
  unfold L2.Loc
  rw [hs]
  unfold isLoc at h
  simpa only [Bool.or_eq_true, decide_eq_true_eq] using h
theorem notStar_par : ∀ {is : List Nat} {ts : List Expr}, parN N sc is ts = true → (assignEach ts X.env).length = is.length ∧ (assignEach ts X.env).findIdx? (·.1) = none
  | [], ts, h => by
    cases ts with
    | nil => exact ⟨rfl, rfl⟩
    | cons => cases h
  | i :: is, ts, h => by
    unfold parN at h
    split at h
    · obtain ⟨h1, h2⟩ := an h
      obtain ⟨q1, q2⟩ := notStar_par h2
      refine ⟨?_, ?_⟩
      · show (assignEach _ X.env).length + 1 = is.length + 1
        rw [q1]
      · rw [assignEach_cons rfl, List.findIdx?_cons]
        simp [q2]
    · cases h
theorem parN_ok (hN : X.N = N) (nd : N.Nodup) (hs : X.env.scope = sc) (hf : ∀ x, X.fn x = true) : ∀ {is : List Nat} {ts : List Expr}, parN N sc is ts = true → PGs X ts (gNames is)
  | [], ts, h => by
    cases ts with
    | nil => exact pgs_nil
    | cons => cases h
  | i :: is, ts, h => by
    unfold parN at h
    split at h
    · obtain ⟨h1, h2⟩ := an h
      obtain ⟨h1, h3⟩ := an h1
      exact pgs_cons (pg_name (by rw [hN]; exact nd) (by rw [hN]; exact decT h1) (isLoc_ok hs h3) (.inl (hf _))) (parN_ok hN nd hs hf h2) rfl
    · cases h
theorem fnl (hf : ∀ x, X.fn x = true) (x : Str) : X.fn x = true ∨ X.env.scope.names.lookup x = some .local := .inl (hf x)
theorem attr_plain {o : Expr} {x : Str} {env : PySem.Env} (h : plainO o = true) : attributeBase o x env (eval o env) = eval o env := by
  cases o <;> first
    | rfl
    | cases h
theorem no_swap {e : Expr} {l : Nat} {env : PySem.Env} (h : notComp e = true) : swapsWith e none l env = pure false := by
  cases e <;> first
    | rfl
    | cases h
theorem isLc_cases : ∀ {e : Ex}, isLcE e = true → ∃ elt tg it ifs own, e = .lc elt tg it ifs own ∨ e = .frz (.lc elt tg it ifs own)
  | .lc elt tg it ifs own, _ => ⟨elt, tg, it, ifs, own, .inl rfl⟩
  | .frz e, h => by
    cases e with
    | lc elt tg it ifs own => exact ⟨_, _, _, _, _, .inr rfl⟩
    | _ => exact Bool.noConfusion (show false = true from h)
theorem s_dead {X : Cx} {Wx : WX} {p : Stmt} {F : Env → Gs → OS} (hF : F = fun _ _ => .no) : PS X p (tS X.K Wx F) := by
  subst hF
  exact ⟨fun pins s σ H D I ⟨env, g, μ, P, r, er, q⟩ => q.elim⟩
mutual
theorem ckS_ok (c : Cok T X k sc N Wx) (po : PassesOwn (model X.prog X.w) X.A X.env X.xe) (hf : ∀ x, X.fn x = true) : ∀ (s : St) {p : Stmt}, ckS T N s sc p = true → PS X p (tS X.K Wx (evS (run T.fns k) s))
  | .set t e, p, h => by
    have ndX : X.N.Nodup := by rw [c.nm]; exact c.nd
    unfold ckS at h
    split at h
    · rename_i x xp v pos
      split at h
      · rename_i i
        obtain ⟨h1, h2⟩ := an h
        obtain ⟨h1, h3⟩ := an h1
        obtain ⟨h4, h5⟩ := an h2
        have hi : X.N[i]? = some x := by rw [c.nm]; exact decT h1
        refine s_set (f := evE (run T.fns k) e) ?_ (by funext env g; simp only [evS] <;> rfl)
        cases eb : swB sc x xp v with
        | none => rw [eb] at h4; cases h4
        | some b =>
          have hsw := swB_ok (l := pos.line) c.scp c.kind eb
          cases b with
          | false => exact ps_set ndX hi (isLoc_ok c.scp h3) (ckE_ok e c h5) hsw (fnl hf x)
          | true =>
            rw [eb] at h4
            have hl : sc.names.lookup x = some .local := by
              cases v <;> first
                | (cases eb; done)
                | skip
              case ListComp q gs s p => exact decT (an (Option.some.inj eb)).1
            have h4 : isLcE e = true := h4
            obtain ⟨elt, tg, it, ifs, own, rfl | rfl⟩ := isLc_cases h4
            · exact lc_set c h5 (decT h1) hl hsw
            · unfold ckE at h5
              exact (lc_set c h5 (decT h1) hl hsw).imp fun D σ H q => frz_read (by funext env g; simp only [evE] <;> rfl) q
      · cases h
    · rename_i ps kk tp v pos
      obtain ⟨h1, h2⟩ := an h
      obtain ⟨h2, h3⟩ := an h2
      refine s_setT (t := t) (f := evE (run T.fns k) e) (ckE_ok e c h3) (ckG_ok c.calm c.nm c.nd c.scp (fun _ => hf) t h2) rfl ?_ ?_ (by funext env g; simp only [evS] <;> rfl)
      · cases v <;> rfl
      · cases v <;> first
          | rfl
          | cases h1
    · cases h
  | .par is es, p, h => by
    have ndX : X.N.Nodup := by rw [c.nm]; exact c.nd
    have hF : evS (run T.fns k) (.par is es) = parF is (evEs (run T.fns k) es) := by funext env g; simp only [evS] <;> rfl
    rw [hF]
    unfold ckS at h
    split at h
    · rename_i ts k1 p1 vs k2 p2 pos
      split at h
      · cases h
      · rename_i es2
        obtain ⟨h1, h2⟩ := an h
        obtain ⟨h2, h3⟩ := an h2
        obtain ⟨h3, h4⟩ := an h3
        obtain ⟨q1, q2, _⟩ := ckEs_ok es c h2
        obtain ⟨n1, n2⟩ := notStar_par (X := X) h1
        refine (ps_asg (pe_tup q2) (pg_tup c.calm (parN_ok c.nm c.nd c.scp hf h1) n1 n2) rfl (swS_ok c.scp c.kind es2) rfl).imp fun D σ H q => ?_
        exact par_readT (decT h3) (by intro z; subst z; cases h4) q
      · rename_i nm es2
        split at h
        · rename_i i j x px y py a b
          obtain ⟨h1, h2⟩ := an h
          obtain ⟨h2, h3⟩ := an h2
          obtain ⟨h3, h4⟩ := an h3
          obtain ⟨h4, h5⟩ := an h4
          obtain ⟨a1, a2⟩ := an h3
          obtain ⟨b1, b2⟩ := an h4
          have e1 := decT h1
          subst e1
          obtain ⟨q1, q2, _⟩ := ckEs_ok es c h5
          exact (ps_par c.calm ndX (by rw [c.nm]; exact decT a1) (by rw [c.nm]; exact decT b1) (decT h2) (by rw [c.scp]; exact decT a2) (by rw [c.scp]; exact decT b2) q2 (swS_ok c.scp c.kind es2) rfl).imp fun D σ H q => par_read2 q
        · rename_i i j l x px y py z pz a b d
          obtain ⟨h1, h2⟩ := an h
          obtain ⟨h2, h3⟩ := an h2
          obtain ⟨h3, h4⟩ := an h3
          obtain ⟨h4, h5⟩ := an h4
          obtain ⟨h5, h6⟩ := an h5
          obtain ⟨a1, a2⟩ := an h3
          obtain ⟨b1, b2⟩ := an h4
          obtain ⟨c1, c2⟩ := an h5
          obtain ⟨d1, d2⟩ := an h2
          obtain ⟨d2, d3⟩ := an d2
          have e1 := decT h1
          subst e1
          obtain ⟨q1, q2, _⟩ := ckEs_ok es c h6
          exact (ps_par3 c.calm ndX (by rw [c.nm]; exact decT a1) (by rw [c.nm]; exact decT b1) (by rw [c.nm]; exact decT c1) (decT d1) (decT d2) (decT d3) (by rw [c.scp]; exact decT a2) (by rw [c.scp]; exact decT b2) (by rw [c.scp]; exact decT c2) q2 (swS_ok c.scp c.kind es2) rfl).imp fun D σ H q => par_read3 q
        · cases h
    · cases h
  | .setix o i e, p, h => by
    unfold ckS at h
    split at h
    · obtain ⟨h1, h2⟩ := an h
      obtain ⟨h2, h3⟩ := an h2
      obtain ⟨h3, h4⟩ := an h3
      exact s_setix (ckE_ok o c h2) (ckE_ok i c h3) (ckE_ok e c h4) h1 (by funext env g; simp only [evS] <;> rfl)
    · cases h
  | .aug i o e, p, h => by
    have ndX : X.N.Nodup := by rw [c.nm]; exact c.nd
    unfold ckS at h
    split at h
    · obtain ⟨h1, h2⟩ := an h
      obtain ⟨h2, h3⟩ := an h2
      obtain ⟨h3, h4⟩ := an h3
      obtain ⟨h3, h5⟩ := an h3
      have z1 := decT h2
      subst z1
      refine s_aug (o := o) ndX (by rw [c.nm]; exact decT h3) (isLoc_ok c.scp h5) (fnl hf _) (ckE_ok e c h4) (by funext env g; simp only [evS] <;> rfl) ?_
      cases o <;> first
        | exact .inl rfl
        | exact .inr rfl
        | cases h1
    · cases h
  | .ext i e, p, h => by
    have ndX : X.N.Nodup := by rw [c.nm]; exact c.nd
    unfold ckS at h
    split at h
    · obtain ⟨h1, h2⟩ := an h
      obtain ⟨h2, h3⟩ := an h2
      obtain ⟨h2, h4⟩ := an h2
      have z1 := decT h1
      subst z1
      exact s_ext ndX (by rw [c.nm]; exact decT h2) (isLoc_ok c.scp h4) (fnl hf _) (ckE_ok e c h3) (by funext env g; simp only [evS] <;> rfl)
    · cases h
  | .ex e, p, h => by
    unfold ckS at h
    split at h
    · obtain ⟨h1, h2⟩ := an h
      exact s_ex (ckE_ok e c h2) (no_swap h1) (by funext env g; simp only [evS] <;> rfl)
    · cases h
  | .app o e, p, h => by
    unfold ckS at h
    split at h
    · obtain ⟨h1, h2⟩ := an h
      obtain ⟨h2, h3⟩ := an h2
      obtain ⟨h3, h4⟩ := an h3
      obtain ⟨h4, h5⟩ := an h4
      obtain ⟨h5, h6⟩ := an h5
      have z1 := decT h1
      subst z1
      exact s_app (ckE_ok o c h5) (ckE_ok e c h6) h4 (attr_plain h3) h2 (by funext env g; simp only [evS] <;> rfl)
    · cases h
  | .ite q a b, p, h => by
    unfold ckS at h
    split at h
    · obtain ⟨h1, h2⟩ := an h
      obtain ⟨h2, h3⟩ := an h2
      exact s_ite (ckT_ok q c h1).1 (ckSs_ok c po hf a h2) (ckSs_ok c po hf b h3) (by funext env g; simp only [evS] <;> rfl)
    · cases h
  | .for_ t it b, p, h => by
    unfold ckS at h
    split at h
    · obtain ⟨h1, h2⟩ := an h
      obtain ⟨h2, h3⟩ := an h2
      obtain ⟨i1, i2⟩ := ckI_ok it c h2
      exact s_for po c.calm i1 (ckG_ok c.calm c.nm c.nd c.scp (fun _ => hf) t h1) (ckSs_ok c po hf b h3) (not_set_ok i2) (by funext env g; simp only [evS] <;> rfl)
    · cases h
  | .whl q b, p, h => by
    unfold ckS at h
    split at h
    · obtain ⟨h1, h2⟩ := an h
      exact s_whl po (ckT_ok q c h1).1 (ckSs_ok c po hf b h2) (by funext env g; simp only [evS] <;> rfl)
    · cases h
  | .ret e, p, h => by
    unfold ckS at h
    split at h
    · exact s_ret (ckE_ok e c h) (by funext env g; simp only [evS] <;> rfl)
    · cases h
  | .raise cl m, p, h => by
    unfold ckS at h
    split at h
    · obtain ⟨h1, h2⟩ := an h
      obtain ⟨h2, h3⟩ := an h2
      obtain ⟨h3, h4⟩ := an h3
      have z1 := decT h1
      subst z1
      exact s_raise c (isG_ok h2).1 (decT h3) (decT h4) (isG_ok h2).2 (by funext env g; simp only [evS] <;> rfl)
    · cases h
  | .dead, p, h => s_dead (by funext env g; simp only [evS])
  | .doc, p, h => by
    unfold ckS at h
    split at h
    · exact s_doc (by funext env g; simp only [evS] <;> rfl)
    · exact s_pass (by funext env g; simp only [evS] <;> rfl)
    · cases h
  | .frzv i, p, h => by
    unfold ckS at h
    cases h
theorem ckSs_ok (c : Cok T X k sc N Wx) (po : PassesOwn (model X.prog X.w) X.A X.env X.xe) (hf : ∀ x, X.fn x = true) : ∀ (s : Sts) {ps : List Stmt}, ckSs T N s sc ps = true → PSs X ps (tS X.K Wx (evSs (run T.fns k) s))
  | .nil, ps, h => by
    unfold ckSs at h
    cases ps with
    | nil => exact ss_nil (by funext env g; simp only [evSs] <;> rfl)
    | cons => cases h
  | .cons s r, ps, h => by
    unfold ckSs at h
    split at h
    · exact ss_frz (ckSs_ok c po hf r h) (by funext env g; simp only [evSs, evS] <;> rfl)
    · split at h
      · obtain ⟨h1, h2⟩ := an h
        exact ss_cons (ckS_ok c po hf s h1) (ckSs_ok c po hf r h2) (by funext env g; simp only [evSs] <;> rfl)
      · cases h
end
end RF
end
section
set_option Elab.async false
set_option linter.all false
set_option maxRecDepth 100000
set_option maxHeartbeats 4000000
/-! Functions: each def does what the evaluator says. -/
namespace RF
open PySem PySem.Spec PyProof.Rows L2
theorem lk_zip : ∀ {ps : List Str} {us : List Value}, us.length = ps.length → ∀ n ∈ ps, ((ps.zip us).lookup n).isNone = false
  | [], _, _, n, h => by cases h
  | p :: ps, [], h, _, _ => by cases h
  | p :: ps, u :: us, h, n, hn => by
    rw [List.zip_cons_cons, List.lookup_cons]
    cases e : n == p with
    | true => rfl
    | false =>
      have : n ≠ p := by simpa using e
      exact lk_zip (by simpa using h) n ((List.mem_cons.mp hn).resolve_left this)

theorem fm_zip : ∀ {ps : List Str} {us : List Value}, ps.Nodup → us.length = ps.length → ∀ (pre : List (Str × Value)), (∀ n ∈ ps, pre.lookup n = none) → ps.filterMap (fun n => ((pre ++ ps.zip us).lookup n).map (n, ·)) = ps.zip us
  | [], _, _, _, _, _ => rfl
  | p :: ps, [], _, h, _, _ => by cases h
  | p :: ps, u :: us, nd, h, pre, hp => by
    have nd' := List.nodup_cons.mp nd
    have h1 : (pre ++ (p :: ps).zip (u :: us)).lookup p = some u := by
      rw [List.lookup_append, hp p List.mem_cons_self, List.zip_cons_cons, List.lookup_cons, beq_self_eq_true]; rfl
    rw [List.filterMap_cons, h1]
    show (p, u) :: _ = _
    rw [List.zip_cons_cons]
    congr 1
    have := fm_zip (ps := ps) (us := us) nd'.2 (by simpa using h) (pre ++ [(p, u)]) fun n hn => by
      rw [List.lookup_append, hp n (List.mem_cons_of_mem _ hn), List.lookup_cons]
      have : (n == p) = false := by
        simp only [beq_eq_false_iff_ne]
        intro z; subst z; exact nd'.1 hn
      rw [this]; rfl
    simp only [List.append_assoc, List.singleton_append] at this
    exact this
theorem bind_plain {x qual : Str} {ps : List Arg} {body : List Stmt} {scope : Scope} {kV doc pm cdv ct : Value} {an : Option Addr} {us : List Value} (nd : (ps.map (·.arg)).Nodup) (hl : us.length = (ps.map (·.arg)).length) :
    bindArgs (PySem.W.fnOf x qual ⟨[], ps, none, [], [], none, []⟩ body scope .none kV doc pm an cdv ct) ⟨us, []⟩ = pure ((ps.map (·.arg)).zip us) := by
  have hd : seqItems? (PySem.W.fnOf x qual ⟨[], ps, none, [], [], none, []⟩ body scope .none kV doc pm an cdv ct).defaults = pure none := rfl
  generalize ep : ps.map (·.arg) = qs at *
  have hm : (qs.take qs.length).filter (fun n => ((qs.zip us).lookup n).isNone) = [] := by
    rw [List.take_length]
    refine List.filter_eq_nil_iff.mpr fun n hn => ?_
    rw [lk_zip hl n hn]; decide
  have hb := fm_zip nd hl [] fun _ _ => rfl
  rw [List.nil_append] at hb
  have hg : ¬ (us.length > qs.length) := by omega
  unfold bindArgs
  simp only [hd, ep, List.map_nil, List.nil_append, List.forIn_nil, pure_bind, List.append_nil, Option.getD_none, hg, decide_false, Bool.false_and, Bool.false_eq_true, if_false, List.length_nil, List.drop_nil, Nat.sub_zero, hm, List.isEmpty_nil, Bool.not_true, List.zip_nil_right, hb]

/-! ### the end of a def -/
section
variable {K : PySem.W.Frag} {H H' : Hp} {μ μ' : List (Option Addr)} {P : Pv} {g g' : Gs}
theorem Rel.keep (r : Rel K H μ P g) {n m : Nat} (hnm : n ≤ m) {a : Addr} (h : μ[m]? = some (some a)) {o : Ob} (hg : g[m]? = some (some o)) : Rel K H (μ.take n ++ [some a]) P (g.take n ++ [some o]) := by
  have hm : m < μ.length := (List.getElem?_eq_some_iff.mp h).1
  have hl := r.len
  have tl : (μ.take n).length = n := by rw [List.length_take]; omega
  have tg : (g.take n).length = n := by rw [List.length_take]; omega
  have sub : ∀ b, Ms (μ.take n ++ [some a]) P b → Ms μ P b := fun b z => by
    rcases z with z | z
    · rcases List.mem_append.mp z with z | z
      · exact .inl (List.mem_of_mem_take z)
      · have e : b = a := by simpa using z
        subst e
        exact .inl (List.mem_of_getElem? h)
    · exact .inr z
  have at_ : ∀ i b, (μ.take n ++ [some a])[i]? = some (some b) → (i < n ∧ μ[i]? = some (some b)) ∨ (i = n ∧ b = a) := fun i b z => by
    by_cases hi : i < n
    · rw [List.getElem?_append_left (by omega), List.getElem?_take, if_pos hi] at z
      exact .inl ⟨hi, z⟩
    · rw [List.getElem?_append_right (by omega), tl] at z
      by_cases e : i = n
      · subst e
        rw [Nat.sub_self] at z
        have : a = b := by simpa using z
        exact .inr ⟨rfl, this.symm⟩
      · rw [List.getElem?_eq_none (by simp; omega)] at z
        cases z
  have fz : ∀ {ds : List D} {vs : List V}, FzAll K H (Ms μ P) vs ds → FzAll K H (Ms (μ.take n ++ [some a]) P) vs ds := fun f => f.ext (fun _ _ q _ _ => q) fun b z => .inl (sub b z)
  refine ⟨by rw [List.length_append, List.length_append, tl, tg]; rfl, fun i j b hi hj => ?_, fun b z pb => ?_, r.priv, fun i b hi => ?_, fun i hi => ?_, r.tab⟩
  · rcases at_ i b hi with ⟨i1, i2⟩ | ⟨i1, i2⟩ <;> rcases at_ j b hj with ⟨j1, j2⟩ | ⟨j1, j2⟩
    · exact r.inj i j b i2 j2
    · subst j2
      have := r.inj i m b i2 h
      omega
    · subst i2
      have := r.inj j m b j2 h
      omega
    · omega
  · have := sub b (.inl z)
    rcases this with q | q
    · exact r.apart b q pb
    · rcases List.mem_append.mp z with z | z
      · exact r.apart b (List.mem_of_mem_take z) pb
      · have e : b = a := by simpa using z
        subst e
        exact r.apart b (List.mem_of_getElem? h) pb
  · rcases at_ i b hi with ⟨i1, i2⟩ | ⟨i1, i2⟩
    · obtain ⟨o', h1, h2⟩ := r.obj i b i2
      refine ⟨o', by rw [List.getElem?_append_left (by omega), List.getElem?_take, if_pos i1]; exact h1, ?_⟩
      cases o' with
      | lst ds =>
        obtain ⟨xs, h3, h4⟩ := h2
        exact ⟨xs, h3, fz h4⟩
    · subst i1 i2
      obtain ⟨o', h1, h2⟩ := r.obj m b h
      rw [hg] at h1
      cases h1
      refine ⟨o, by rw [List.getElem?_append_right (by omega), tg, Nat.sub_self]; rfl, ?_⟩
      cases o with
      | lst ds =>
        obtain ⟨xs, h3, h4⟩ := h2
        exact ⟨xs, h3, fz h4⟩
  · by_cases hi2 : i < n
    · rw [List.getElem?_append_left (by omega), List.getElem?_take, if_pos hi2] at hi
      rw [List.getElem?_append_left (by omega), List.getElem?_take, if_pos hi2]
      exact r.dead i hi
    · rw [List.getElem?_append_right (by omega), tl] at hi
      by_cases e : i = n
      · subst e
        rw [Nat.sub_self] at hi
        cases hi
      · rw [List.getElem?_eq_none (by simp; omega)] at hi
        cases hi
theorem Ext.keep1 (e : Ext H μ H' μ') {m : Nat} {a : Addr} (h : μ'[m]? = some (some a)) : Ext H μ H' (μ'.take μ.length ++ [some a]) where
  keep := e.keep
  there := e.there
  new := fun b z => by
    rcases List.mem_append.mp z with z | z
    · exact e.new b (List.mem_of_mem_take z)
    · have q : b = a := by simpa using z
      subst q
      exact e.new b (List.mem_of_getElem? h)
  ix := fun n hn => by
    obtain ⟨h1, h2⟩ := e.cut.ix n hn
    refine ⟨by rw [List.length_append]; omega, ?_⟩
    rw [List.getElem?_append_left h1]
    exact h2
/-- the callee's ends -/
theorem end_ok {Q : VK} {E : XK} {o : OS} {keeps : Bool} (r : Rel K H μ P g)
    (q : Gd (endF keeps g.length o) (Post K H μ P Q) (fun e g' => ∀ cls dd H' μ', Rel K H' μ' P g' → Ext H μ H' μ' → ExR K H' e cls dd → E cls dd H')) :
    SP3 K (fun cls d _ H' => E cls d H') { nx := fun _ H' => Q .non H', rt := Q } H μ P o := by
  have hl := r.len
  cases o with
  | nx env g1 =>
    intro σ' H1 μ1 r1 e1 er1
    have rc := r1.cut g.length
    have ec := e1.cut
    rw [hl] at ec
    exact (show Post K H μ P Q (.d .none) (g1.take g.length) from q) .non H1 _ rc ec .non
  | rt w g1 =>
    intro v H1 μ1 r1 e1 h1
    have rc := r1.cut g.length
    have ec := e1.cut
    rw [hl] at ec
    cases keeps with
    | true =>
      have q : Gd (keepAt g.length g1 w) (Post K H μ P Q) _ := q
      cases w with
      | d x => exact q.elim
      | scr ns => exact q.elim
      | ref m =>
        simp only [keepAt] at q
        split at q
        · rename_i hm
          split at q
          · rename_i o eo
            have q : Post K H μ P Q (.ref g.length) (g1.take g.length ++ [some o]) := q
            obtain ⟨h2, h3⟩ := h1
            cases ea : μ1[m]? with
            | none => exact absurd (List.getElem?_eq_none_iff.mp ea) (by omega)
            | some oa =>
              cases oa with
              | none => have := r1.dead m ea; rw [this] at eo; cases eo
              | some a =>
                have hv := h3 a ea
                have rk := r1.keep hm ea eo
                have ek := e1.keep1 ea
                rw [hl] at ek
                refine q v H1 _ rk ek ⟨by rw [List.length_append, List.length_take]; simp; have := (List.getElem?_eq_some_iff.mp ea).1; omega, fun b hb => ?_⟩
                rw [List.getElem?_append_right (by rw [List.length_take]; omega)] at hb
                have hz : g.length - (μ1.take g.length).length = 0 := by
                  have := (List.getElem?_eq_some_iff.mp ea).1
                  rw [List.length_take]; omega
                rw [hz] at hb
                have : a = b := by simpa using hb
                rw [← this]; exact hv
          · exact q.elim
        · exact q.elim
    | false =>
      cases w with
      | d x => exact (show Post K H μ P Q (.d x) (g1.take g.length) from q) v H1 _ rc ec (Fz.cut h1)
      | scr ns => exact q.elim
      | ref m =>
        have q : Gd (if m < g.length then Out.ok (W.ref m) (g1.take g.length) else freezeAt g.length g1 (.ref m)) (Post K H μ P Q) _ := q
        by_cases hm : m < g.length
        · rw [if_pos hm] at q
          have q : Post K H μ P Q (.ref m) (g1.take g.length) := q
          refine q v H1 _ rc ec ?_
          obtain ⟨h2, h3⟩ := h1
          have := r1.len
          refine ⟨by rw [List.length_take]; omega, fun a ha => h3 a ?_⟩
          rw [List.getElem?_take, if_pos hm] at ha
          exact ha
        · rw [if_neg hm] at q
          cases e : freezeAt g.length g1 (.ref m) with
          | ok w2 g2 =>
            rw [e] at q
            obtain ⟨μ2, r2, e2, h2⟩ := freeze_ok r r1 e1 h1 e
            exact (show Post K H μ P Q w2 g2 from q) v H1 μ2 r2 e2 h2
          | exc x g2 =>
            exfalso
            simp only [freezeAt] at e
            split at e <;> (try split at e) <;> cases e
          | no => rw [e] at q; exact q.elim
  | exc x env g1 =>
    intro cls d σ' H1 μ1 r1 e1 er1 ex
    have rc := r1.cut g.length
    have ec := e1.cut
    rw [hl] at ec
    exact q cls d H1 _ rc ec ex
  | no => exact q
end
theorem paired_at {α β : Type} {R : α → β → Prop} : ∀ {as : List α} {bs : List β}, Paired R as bs → ∀ {i : Nat} {b : β}, bs[i]? = some b → ∃ a, as[i]? = some a ∧ R a b
  | _, _, .nil, i, b, h => by cases h
  | _, _, .cons r t, 0, b, h => by cases h; exact ⟨_, rfl, r⟩
  | _, _, .cons r t, i + 1, b, h => paired_at t h
/-! ### all defs -/
structure Df where
  d : He.DefD
  f : Fn
  N : List Str
def Df.ps (x : Df) : List Str := x.d.params.args.map (·.arg)
def tabOf (xs : List Df) (consts : List (Str × D)) (free excs lams : List Str) : Tab := ⟨xs.map (·.f), xs.map fun x => ⟨x.d.name, x.ps⟩, consts, free, excs, lams, Str.empty⟩
def ckD0 (x : Df) : Bool := (argsOk x.d.params && (decide x.ps.Nodup && (C8.scC x.N x.ps x.d.scope && (decide (x.f.pars = x.ps.length) && (decide (x.f.slots = x.N.length) && (x.d.dfl.isEmpty && (x.d.kwd.isEmpty && (decide (x.d.qual = x.d.name) && decide (x.d.at_ = (x.d.name, none))))))))))
def ckD (T : Tab) (x : Df) : Bool := ckD0 x && ckSs (T.to x.d.name) x.N x.f.body x.d.scope x.d.body
structure Top (xs : List Df) (T : Tab) (K : PySem.W.Frag) (mg : Str → Option Value) : Prop where
  free : ∀ x ∈ T.free, mg x = none
  cons : ∀ x d, (x, d) ∈ T.consts → ∃ v u, mg x = some u ∧ RelV v u ∧ ∀ H M, Fz K H M v d
  exc : ∀ x ∈ T.excs, mg x = some (.ref (He.ga K x)) ∧ PySem.W.excIn K (He.ga K x) He.veBase "ValueError.__new__" = true ∧ PySem.W.keepIn K (.ref (He.ga K x)) = true ∧
    PySem.W.subIn K (.ref (He.ga K x)) (.type "BaseException") = some true ∧ PySem.W.typeIn K (.ref (He.ga K x)) = some (.type "type")
  tr : T.lams ≠ [] → TryG K mg
  few : T.fns.length ≤ 1000
  defs : ∀ (i : Nat) (x : Df), xs[i]? = some x → mg x.d.name = some (.ref (He.fAd K x.d.at_)) ∧ ∃ fd, FunD K x.d.name x.d.qual x.d.params x.d.body x.d.scope (x.d.dvs K) (x.d.kws K) (He.fAd K x.d.at_) fd
theorem Top.funs {xs : List Df} {T : Tab} {K : PySem.W.Frag} {mg : Str → Option Value} (t : Top xs T K mg) {i : Nat} {x : Df} (h : xs[i]? = some x) (c : ckD0 x = true) :
    ∃ fd, FunD K x.d.name x.d.qual x.d.params x.d.body x.d.scope [] [] (He.fAd K x.d.at_) fd ∧ Binds K fd x.ps [] ∧ ∀ (s : Shared) (us : List Value), us.length = x.ps.length → BindsTo s fd ⟨us, []⟩ (x.ps.zip us) := by
  obtain ⟨h1, h2⟩ := t.defs i x h
  obtain ⟨fd, F⟩ := h2
  obtain ⟨c1, c3⟩ := an (show (argsOk x.d.params && _) = true from c)
  obtain ⟨c3, c4⟩ := an c3
  obtain ⟨c4, c5⟩ := an c4
  obtain ⟨c5, c6⟩ := an c5
  obtain ⟨c6, c7⟩ := an c6
  obtain ⟨c7, c8⟩ := an c7
  obtain ⟨c8, c9⟩ := an c8
  have e1 : x.d.dvs K = [] := by
    unfold He.DefD.dvs
    rw [List.isEmpty_iff.mp c7]; rfl
  have e2 : x.d.kws K = [] := by
    unfold He.DefD.kws
    rw [List.isEmpty_iff.mp c8]; rfl
  rw [e1, e2] at F
  have bd : ∀ (kV doc pm : Value) (an : Option Addr) (cdv ct : Value) (us : List Value), us.length = x.ps.length → bindArgs (PySem.W.fnOf x.d.name x.d.qual x.d.params x.d.body x.d.scope .none kV doc pm an cdv ct) ⟨us, []⟩ = pure (x.ps.zip us) := by
    intro kV doc pm an cdv ct us hl
    rw [argsOk_eq c1]
    exact bind_plain (decT c3) hl
  exact ⟨fd, F, F.bindsN bd, fun s us hl => F.bindsA bd s us hl⟩
/-- the tables of the defs that hold lambdas -/
structure TabsOk (T : Tab) (K : PySem.W.Frag) (mg : Str → Option Value) (base : Heap) : Prop where
  at_ : ∀ n ∈ T.lams, LamX.TabB base mg (He.cT K (n, none)).1 (He.cT K (n, none)).2 ∧ (tabK K).contains ((He.cT K (n, none)).2, n ++ ".<locals>." ++ "<lambda>") = true
theorem fns_ok {xs : List Df} {T : Tab} {P : Program} {w : World} {K : PySem.W.Frag} {mg : Str → Option Value} {base : Heap} (t : Top xs T K mg) (ht : T.fns = xs.map (·.f)) (hd : T.fds = xs.map fun x => ⟨x.d.name, x.ps⟩) (tb : TabsOk T K mg base) (ck : ∀ x ∈ xs, ckD T x = true) :
    ∀ (k j : Nat), j ≤ k → ∀ (i : Nat) (x : Df), xs[i]? = some x → ∀ fd, FunD K x.d.name x.d.qual x.d.params x.d.body x.d.scope [] [] (He.fAd K x.d.at_) fd → FnOk P w K mg base (L2N.CX P w) j (He.fAd K x.d.at_) fd x.ps (spF K T j i) := by
  have al : ∀ (i : Nat) (d : Fd), T.fds[i]? = some d → ∃ f : Fn, T.fns[i]? = some f ∧ f.pars = d.ps.length := fun i d h => by
    rw [hd, List.getElem?_map] at h
    obtain ⟨x, hx, rfl⟩ := Option.map_eq_some_iff.mp h
    refine ⟨x.f, by rw [ht, List.getElem?_map, hx]; rfl, ?_⟩
    have c := ck x (List.mem_of_getElem? hx)
    exact decT (an (an (an (an (an c).1).2).2).2).1
  have fdx : ∀ {i : Nat} {x : Df}, xs[i]? = some x → T.fds[i]? = some ⟨x.d.name, x.ps⟩ := fun {i x} h => by rw [hd, List.getElem?_map, h]; rfl
  intro k
  induction k with
  | zero =>
    intro j hj i x hx fd F
    obtain rfl : j = 0 := by omega
    exact ⟨spF_len al (fdx hx), fun A outer s H args us vs Q E _ _ _ _ ⟨ws, g, μ, P, _, _, q⟩ => q.elim⟩
  | succ k ih =>
    intro j hj i x hx fd F
    by_cases hjk : j ≤ k
    · exact ih j hjk i x hx fd F
    obtain rfl : j = k + 1 := by omega
    have c := ck x (List.mem_of_getElem? hx)
    obtain ⟨c0, cb⟩ := an c
    obtain ⟨c1, c3⟩ := an c0
    obtain ⟨c3, c4⟩ := an c3
    obtain ⟨c4, c5⟩ := an c4
    obtain ⟨c5, c6⟩ := an c5
    obtain ⟨c6, c7⟩ := an c6
    obtain ⟨c7, c8⟩ := an c7
    obtain ⟨c8, c9⟩ := an c8
    obtain ⟨c9, c10⟩ := an c9
    have S := C8.fnScope_by c4
    obtain ⟨oc, od, dV, kV, doc, pm, an0, cdv, ct, osl, rfl, lk, hcd, _, _⟩ := F.ex
    refine fn_of lk hcd S (spF_len al (fdx hx)) fun A outer s H vs Q E room sp => ?_
    obtain ⟨ws, g, μ, Pp, r, hw, q⟩ := sp
    have gok : Gok T P w K mg base k := ⟨al, t.free, t.cons, t.few, fun j hj i d hdd => by
      rw [hd, List.getElem?_map] at hdd
      obtain ⟨y, hy, rfl⟩ := Option.map_eq_some_iff.mp hdd
      obtain ⟨fd', F', b1, b2⟩ := t.funs hy (an (ck y (List.mem_of_getElem? hy))).1
      exact ⟨_, fd', (t.defs i y hy).1, F'.kp, b1, ih j hj i y hy fd' F'⟩, t.tr, t.exc⟩
    have lam : x.d.name ∈ T.lams → x.d.name ≠ Str.empty → ∃ c A', cdv = .ref c ∧ LamX.TabB base mg c A' ∧ (A', x.d.qual ++ ".<locals>." ++ "<lambda>") ∈ tabK K := fun hm _ => by
      obtain ⟨t1, t2⟩ := tb.at_ _ hm
      obtain ⟨c, rfl⟩ := He.codeIn_ref hcd
      rw [decT c10] at lk
      have e := He.codeOf_eq lk (c := c) rfl
      refine ⟨c, (He.cT K (x.d.name, none)).2, rfl, ?_, ?_⟩
      · have e2 : (He.cT K (x.d.name, none)).1 = c := e
        rw [e2] at t1
        exact t1
      · rw [decT c9]
        exact List.contains_iff_mem.mp t2
    have cok : Cok (T.to x.d.name) (cxOf (L2N.CX P w) P w K mg base x.N x.d.qual x.d.scope (He.fAd K x.d.at_) cdv A outer s H E) k x.d.scope x.N (fun cls d _ H' => E cls d H') := ⟨gok.less (Nat.le_refl k) _, rfl, rfl, S.nd, rfl, room, L2N.takes_of rfl rfl rfl rfl, S.kind, lam⟩
    refine ⟨_, ckSs_ok cok (passes_of rfl) (fun _ => rfl) x.f.body cb, ?_⟩
    have hl : vs.length = ws.length := Paired.length hw
    unfold run at q
    rw [ht, List.getElem?_map, hx] at q
    simp only [Option.map_some] at q
    split at q
    · rename_i hp
      refine ⟨startE x.f ws, g, μ, Pp, r, ?_, by rw [← ht] at q; exact end_ok r q⟩
      have hs : x.f.slots = x.N.length := decT c6
      unfold startE L2.start
      rw [hs, ← hp, ← hl]
      refine ⟨?_, fun j w0 hj => ?_⟩
      · rw [List.length_append, List.length_append, List.length_map, List.length_map, List.length_replicate, List.length_replicate, hl]
      · by_cases hjl : j < ws.length
        · rw [List.getElem?_append_left (by rw [List.length_map]; exact hjl), List.getElem?_map] at hj
          obtain ⟨w1, h1, h2⟩ := Option.map_eq_some_iff.mp hj
          cases h2
          obtain ⟨v, h3, h4⟩ := paired_at hw h1
          refine ⟨v, ?_, h4⟩
          rw [List.getElem?_append_left (by rw [List.length_map]; omega), List.getElem?_map, h3]; rfl
        · rw [List.getElem?_append_right (by rw [List.length_map]; omega), List.getElem?_replicate] at hj
          split at hj <;> cases hj
    · exact q.elim
end RF
end
section
set_option Elab.async false
set_option linter.all false
set_option maxRecDepth 100000
set_option maxHeartbeats 4000000
/-! The head's facts, the law's end. -/
namespace RF
open PySem PySem.Spec PyProof.Rows L2

/-! ### constants of the module -/
mutual
def fzB (K : PySem.W.Frag) : D → Value → Bool
  | .none, u => (match u with
    | .none => true
    | _ => false)
  | .bool b, u => (match u with
    | .bool c => decide (b = c)
    | _ => false)
  | .int i, u => (match u with
    | .int j _ => decide (i = j)
    | _ => false)
  | .str x, u => (match u with
    | .str y _ => decide (x = y) && (PyData.strOk x && decide (x.length ≤ sizeLine))
    | _ => false)
  | .tuple ds, u => (match u with
    | .ref a => (match K.lookup a with
      | some ⟨.type c, _, .seq its _, _⟩ => decide (c = "tuple") && (decide (its.size ≤ sizeLine) && fzBs K ds its.toList)
      | _ => false)
    | _ => false)
  | _, _ => false
def fzBs (K : PySem.W.Frag) : List D → List Value → Bool
  | [], us => us.isEmpty
  | d :: ds, us => (match us with
    | u :: r => fzB K d u && fzBs K ds r
    | [] => false)
end
mutual
theorem fzB_ok {K : PySem.W.Frag} : ∀ {d : D} {u : Value}, fzB K d u = true → ∃ v, RelV v u ∧ ∀ H M, Fz K H M v d
  | .none, u, h => by
    unfold fzB at h
    split at h
    · exact ⟨.non, rfl, fun _ _ => .non⟩
    · cases h
  | .bool b, u, h => by
    unfold fzB at h
    split at h
    · cases decT h
      exact ⟨.bl b, rfl, fun _ _ => .bl b⟩
    · cases h
  | .int b, u, h => by
    unfold fzB at h
    split at h
    · cases decT h
      exact ⟨.int b, ⟨_, rfl⟩, fun _ _ => .int b⟩
    · cases h
  | .str b, u, h => by
    unfold fzB at h
    split at h
    · obtain ⟨h1, h2⟩ := an h
      obtain ⟨h2, h3⟩ := an h2
      cases decT h1
      exact ⟨.str b, ⟨_, rfl⟩, fun _ _ => .str b h2 (decT h3)⟩
    · cases h
  | .tuple ds, u, h => by
    unfold fzB at h
    split at h
    · split at h
      · rename_i c dd its n sl e
        obtain ⟨h1, h2⟩ := an h
        obtain ⟨h2, h3⟩ := an h2
        have z := decT h1
        subst z
        obtain ⟨vs, r, f⟩ := fzBs_ok h3
        exact ⟨.ref _, rfl, fun H M => .tupK ⟨_, its, n, e, rfl, rfl, decT h2, r⟩ (f H M)⟩
      · cases h
    · cases h
  | .list _, u, h => by unfold fzB at h; cases h
  | .dict _, u, h => by unfold fzB at h; cases h
theorem fzBs_ok {K : PySem.W.Frag} : ∀ {ds : List D} {us : List Value}, fzBs K ds us = true → ∃ vs, Vals vs us ∧ ∀ H M, FzAll K H M vs ds
  | [], us, h => by
    unfold fzBs at h
    cases us with
    | nil => exact ⟨[], .nil, fun _ _ => .nil⟩
    | cons => cases h
  | d :: ds, us, h => by
    unfold fzBs at h
    split at h
    · obtain ⟨h1, h2⟩ := an h
      obtain ⟨v, r, f⟩ := fzB_ok h1
      obtain ⟨vs, r2, f2⟩ := fzBs_ok h2
      exact ⟨v :: vs, .cons r r2, fun H M => .cons (f H M) (f2 H M)⟩
    · cases h
end
def conB (K : PySem.W.Frag) (p : Str × D) : Bool := match PySem.W.nsIn K mainGlobals p.1 with
  | some (some u) => fzB K p.2 u
  | _ => false
theorem conB_ok {K : PySem.W.Frag} {h : Heap} {mg : Str → Option Value} (X : K.In h) (G : h.Ns mainGlobals mg) {x : Str} {d : D} (c : conB K (x, d) = true) : ∃ v u, mg x = some u ∧ RelV v u ∧ ∀ H M, Fz K H M v d := by
  unfold conB at c
  split at c
  · rename_i u e
    obtain ⟨v, r, f⟩ := fzB_ok c
    exact ⟨v, u, PySem.W.mg_of X G e, r, f⟩
  · cases c
/-! ### what a try asks of the top, by Bools -/
def excCB (K : PySem.W.Frag) (D : Addr) : Bool := decide (PySem.W.findIn K (.ref D) "__getattribute__" = some (some (.builtin "BaseException.__getattribute__"))) && (decide (PySem.W.findIn K (.ref D) "__getattr__" = some none) && (decide (PySem.W.subIn K (.ref D) (.type "BaseException") = some true) &&
  (PySem.W.hasDictIn K D && (decide (PySem.W.findIn K (.ref D) "__class__" = some (some (.builtin "object.__class__"))) && (decide (PySem.W.specialIn K (.builtin "object.__class__") "__get__" = some (some (.builtin "getset_descriptor.__get__"))) &&
  (decide (PySem.W.takesIn K (.builtin "object.__class__") = some true) && decide (PySem.W.mroIn K D (.type "object") = some true)))))))
theorem excCB_ok {K : PySem.W.Frag} {D : Addr} (h : excCB K D = true) : ExcC K D := by
  simp only [excCB, Bool.and_eq_true] at h
  obtain ⟨h1, h2, h3, h4, h5, h6, h7, h8⟩ := h
  exact ⟨decT h1, decT h2, decT h3, h4, decT h5, decT h6, decT h7, decT h8⟩
def kinB (K : PySem.W.Frag) (x : Str) : Bool := excCB K (He.ga K x) && ((kinX.all fun y => if y = ("ValueError" : Str) then decide (PySem.W.kitOne K (.ref (He.ga K x)) (.type "ValueError") = some (kf x y)) else decide (PySem.W.kitOne K (.ref (He.ga K x)) (.ref (He.ga K y)) = some (kf x y))) &&
  (decide (PySem.W.exmOne K (.ref (He.ga K x)) (.ref (He.ga K "TooMany")) = some false) && (decide (PySem.W.exmOne K (.ref (He.ga K x)) (.ref (He.ga K "InvalidText")) = some false) && decide (PySem.W.exmOne K (.ref (He.ga K x)) (.ref (He.ga K "FeudError")) = some true))))
def oneB (l : List (Addr × Str)) : Bool := l.all fun p => l.all fun q => !decide (p.1 = q.1) || decide (p.2 = q.2)
def tryB (K : PySem.W.Frag) : Bool := excN.all (kinB K) && oneB (tabK K)
/-- the names that a try asks -/
def tryGlo : List Str := kinX.take 14 ++ [("FeudError" : Str)]
def tryFree : List Str := ["ValueError", "isinstance", "zip"]
/-- the texts of the two defs that a try asks -/
def tryD (xs : List Df) : Bool := (xs.any fun x => decide (x.d.name = ("_law_kin" : Str)) && (decide (x.ps = [("_law_e" : Str)]) && (C8.scC kinN ["_law_e"] x.d.scope && isKin x.d.scope x.d.body))) &&
  xs.any fun x => decide (x.d.name = ("_law_try" : Str)) && (decide (x.d.qual = ("_law_try" : Str)) && (decide (x.ps = [("_law_call_so" : Str)]) && (C8.scC tryN ["_law_call_so"] x.d.scope && isTry x.d.scope x.d.body)))

/-! ### the Hook -/
def lamT (xs : List Df) : List Str := lamDefs.filter fun n => (xs.map (·.d.name)).contains n
def exB (xs : List Df) (consts : List (Str × D)) (lams : List Str) (K : PySem.W.Frag) : Bool := consts.all (conB K) && ((lamDefs.all fun n => (lamT xs).contains n || !hdOk K n) && (lams.isEmpty || tryB K))
def faOf (fn : List He.DefD) (free excs lams : List Str) : List He.Fa := fn.map (fun d => He.Fa.glo d.name) ++ (free.map He.Fa.free ++ (excs.map He.Fa.glo ++ (excs.map He.Fa.exc ++ (if lams.isEmpty = true then [] else tryGlo.map He.Fa.glo ++ tryFree.map He.Fa.free))))
abbrev hookF (n : Nat) (xs : List Df) (consts : List (Str × D)) (free excs lams : List Str) : PySem.W.Hook := He.hookX n (faOf (xs.map (·.d)) free excs lams) (xs.map (·.d)) [] ((lamT xs).map fun n => (n, none)) (exB xs consts lams)
theorem top_of {xs : List Df} {consts : List (Str × D)} {free excs lams : List Str} {K : PySem.W.Frag} {h : Heap} {w : World} {hh : Heap} {mg : Str → Option Value} (X : K.In h) (G : h.Ns mainGlobals mg) (ck : ∀ x ∈ xs, ckD (tabOf xs consts free excs lams) x = true) (few : xs.length ≤ 1000) (td : lams.isEmpty = true ∨ tryD xs = true)
    (c : He.SaysX (faOf (xs.map (·.d)) free excs lams) (xs.map (·.d)) [] ((lamT xs).map fun n => (n, none)) (exB xs consts lams) w hh K) : Top xs (tabOf xs consts free excs lams) K mg := by
  have sd : He.SaysD (faOf (xs.map (·.d)) free excs lams) (xs.map (·.d)) K := c.t.d
  have fact : ∀ f ∈ faOf (xs.map (·.d)) free excs lams, f.ok K = true := fun f hf => sd.facts hf
  have more := c.more
  simp only [exB, Bool.and_eq_true] at more
  obtain ⟨m1, m2, m3⟩ := more
  have fa_def : ∀ x ∈ xs, (He.Fa.glo x.d.name).ok K = true := fun x hx => fact _ (by unfold faOf; simp only [List.mem_append, List.mem_map]; exact .inl ⟨x.d, ⟨x, hx, rfl⟩, rfl⟩)
  have defs : ∀ (i : Nat) (x : Df), xs[i]? = some x → mg x.d.name = some (.ref (He.fAd K x.d.at_)) ∧ ∃ fd, FunD K x.d.name x.d.qual x.d.params x.d.body x.d.scope (x.d.dvs K) (x.d.kws K) (He.fAd K x.d.at_) fd := fun i x hx => by
    have hm := List.mem_of_getElem? hx
    have c0 := (an (ck x hm)).1
    have c10 := (an (an (an (an (an (an (an (an c0).2).2).2).2).2).2).2).2
    have ha : He.fAd K x.d.at_ = He.ga K x.d.name := by rw [decT c10]; rfl
    exact ⟨by rw [ha]; exact He.glo_ok X G (fa_def x hm), sd.def_ i (by rw [List.getElem?_map, hx]; rfl)⟩
  have t0 : Top xs { tabOf xs consts free excs lams with lams := [] } K mg := by
    refine ⟨fun x hx => ?_, fun x d hx => ?_, fun x hx => ?_, fun z => absurd rfl z, by show (xs.map (·.f)).length ≤ 1000; rw [List.length_map]; exact few, defs⟩
    · exact He.free_ok X G (fact (.free x) (by unfold faOf; simp only [List.mem_append, List.mem_map]; exact .inr (.inl ⟨x, hx, rfl⟩)))
    · exact conB_ok X G (List.all_eq_true.mp m1 (x, d) hx)
    · have h1 := He.glo_ok X G (fact (.glo x) (by unfold faOf; simp only [List.mem_append, List.mem_map]; exact .inr (.inr (.inl ⟨x, hx, rfl⟩))))
      have h2 := He.exc_ok (fact (.exc x) (by unfold faOf; simp only [List.mem_append, List.mem_map]; exact .inr (.inr (.inr (.inl ⟨x, hx, rfl⟩)))))
      exact ⟨h1, h2⟩
  refine ⟨t0.free, t0.cons, t0.exc, fun hl => ?_, t0.few, defs⟩
  have hl : lams.isEmpty = false := by
    cases lams with
    | nil => exact absurd rfl hl
    | cons => rfl
  have td : tryD xs = true := td.resolve_left (by rw [hl]; decide)
  have tb : tryB K = true := by rw [hl] at m3; simpa using m3
  obtain ⟨b1, b2⟩ := an tb
  have gl : ∀ x ∈ tryGlo, mg x = some (.ref (He.ga K x)) := fun x hx => He.glo_ok X G (fact (.glo x) (by unfold faOf; simp only [hl, Bool.false_eq_true, if_false, List.mem_append, List.mem_map]; exact .inr (.inr (.inr (.inr (.inl ⟨x, hx, rfl⟩))))))
  have fr : ∀ x ∈ tryFree, mg x = none := fun x hx => He.free_ok X G (fact (.free x) (by unfold faOf; simp only [hl, Bool.false_eq_true, if_false, List.mem_append, List.mem_map]; exact .inr (.inr (.inr (.inr (.inr ⟨x, hx, rfl⟩))))))
  obtain ⟨d1, d2⟩ := an td
  obtain ⟨x1, hx1, e1⟩ := List.any_eq_true.mp d1
  obtain ⟨x2, hx2, e2⟩ := List.any_eq_true.mp d2
  simp only [Bool.and_eq_true] at e1 e2
  obtain ⟨n1, p1, s1, k1⟩ := e1
  obtain ⟨n2, q2, p2, s2, k2⟩ := e2
  have funs : ∀ x ∈ xs, mg x.d.name = some (.ref (He.fAd K x.d.at_)) ∧ ∃ fd, FunD K x.d.name x.d.qual x.d.params x.d.body x.d.scope [] [] (He.fAd K x.d.at_) fd ∧ Binds K fd x.ps [] := fun x hx => by
    obtain ⟨i, hi, e⟩ := List.mem_iff_getElem.mp hx
    have hx' : xs[i]? = some x := by rw [List.getElem?_eq_getElem hi, e]
    obtain ⟨fd, F, b, _⟩ := t0.funs hx' (an (ck x hx)).1
    exact ⟨(defs i x hx').1, fd, F, b⟩
  obtain ⟨g1, fd1, F1, bn1⟩ := funs x1 hx1
  obtain ⟨g2, fd2, F2, bn2⟩ := funs x2 hx2
  refine ⟨⟨?_⟩, ?_, ⟨_, _, _, gl _ (by decide +kernel), gl _ (by decide +kernel), gl _ (by decide +kernel), fun x hx => ?_⟩, fun p hp q hq e => ?_⟩
  · obtain ⟨oc, od, dV, kV, doc, pm, an0, cdv, ct, osl, rfl, lk, hcd, _, _⟩ := F1.ex
    have e := decT n1
    rw [e] at g1 lk bn1
    rw [decT p1] at bn1
    exact ⟨_, oc, od, _, _, _, _, dV, kV, doc, pm, an0, cdv, ct, osl, g1, F1.kp, lk, hcd, C8.fnScope_by s1, bn1, k1⟩
  · obtain ⟨oc, od, dV, kV, doc, pm, an0, cdv, ct, osl, rfl, lk, hcd, _, _⟩ := F2.ex
    have e := decT n2
    have e' := decT q2
    rw [e] at g2 lk bn2
    rw [e'] at lk bn2 hcd
    rw [decT p2] at bn2
    exact ⟨_, oc, od, _, _, _, dV, kV, doc, pm, an0, cdv, ct, osl, g2, F2.kp, lk, hcd, bn2, C8.fnScope_by s2, k2⟩
  · have k := List.all_eq_true.mp b1 x hx
    simp only [kinB, Bool.and_eq_true] at k
    obtain ⟨k1, k2, k3, k4, k5⟩ := k
    refine ⟨⟨excCB_ok k1, fr _ (by decide +kernel), fr _ (by decide +kernel), fun y hy => ?_⟩, decT k3, decT k4, decT k5⟩
    have z := List.all_eq_true.mp k2 y hy
    by_cases hv : y = ("ValueError" : Str)
    · rw [if_pos hv] at z
      subst hv
      exact .inr ⟨rfl, fr _ (by decide +kernel), decT z⟩
    · rw [if_neg hv] at z
      have hg : y ∈ tryGlo := by
        have : ∀ y ∈ kinX, y = ("ValueError" : Str) ∨ y ∈ tryGlo := by decide +kernel
        exact (this y hy).resolve_left hv
      exact .inl ⟨_, gl y hg, decT z⟩
  · have z := List.all_eq_true.mp (List.all_eq_true.mp b2 p hp) q hq
    simp only [Bool.or_eq_true, Bool.not_eq_true', decide_eq_false_iff_not, decide_eq_true_eq] at z
    exact z.resolve_left fun n => n e
end RF
end
section
set_option Elab.async false
set_option linter.all false
set_option maxRecDepth 100000
set_option maxHeartbeats 4000000
/-! The law's end. -/
namespace RF
open PySem PySem.Spec PyProof.Rows L2
theorem law_end {l : PySem.W.OpenLaw} {n k i m : Nat} {q : Program} {loose : List Str} {XP : (Str → Option Value) → Heap → Prop} {xs : List Df} {consts : List (Str × D)} {free excs lams : List Str} {d : DefRec} {x : Df} {y : Str}
    (hn : l.most = some n) (hn2 : n ≤ sizeLine) (hdf : d.params.defaults = []) (hr : Room k callerA) (ck : (xs.all fun x => ckD (tabOf xs consts free excs lams) x) = true) (few : xs.length ≤ 1000) (td : lams.isEmpty = true ∨ tryD xs = true)
    (ls : (lams.all fun n => (lamT xs).contains n) = true) (hx : xs[i]? = some x) (hy : x.ps = [y]) (hnm : x.d.name = d.name)
    (law : ∀ ns : List Int, ns.length ≤ n → (∀ z ∈ ns, Builtin.Int.intBits z ≤ 1048576) → ∃ g, run (xs.map (·.f)) k i [.scr ns] [] = .ok (.d (.bool true)) g) :
    PySem.W.WalkO q loose XP (hookF m xs consts free excs lams).says l.row.toRowW d [] (fun f vs => PySem.call f vs) := by
  refine Att.attach_callB hn hdf fun w s₀ s₁ mg mb fa o pm cd doc a vs ns G Y ho hd hcd hmg hobj hints hlen hbits hg => ?_
  obtain ⟨K, KX, c⟩ := Y
  have cks : ∀ x ∈ xs, ckD (tabOf xs consts free excs lams) x = true := fun x h => List.all_eq_true.mp ck x h
  have t := top_of KX G.T.g cks few td c
  obtain ⟨fd, F, _, hb⟩ := t.funs hx (an (cks x (List.mem_of_getElem? hx))).1
  have hfa : fa = He.fAd K x.d.at_ := by
    have h1 := (t.defs i x hx).1
    rw [hnm, hmg] at h1
    exact Value.ref.inj (Option.some.inj h1)
  have more := c.more
  simp only [exB, Bool.and_eq_true] at more
  have inT : ∀ n ∈ lamDefs, hdOk K n = true → n ∈ lamT xs := fun n h1 h2 => by
    have z := List.all_eq_true.mp more.2.1 n h1
    simp only [Bool.or_eq_true, Bool.not_eq_true'] at z
    rcases z with z | z
    · exact List.contains_iff_mem.mp z
    · rw [h2] at z; cases z
  have mem : ∀ n ∈ lamT xs, (n, none) ∈ (lamT xs).map fun n => ((n, none) : Str × Option Str) := fun n h => List.mem_map.mpr ⟨n, h, rfl⟩
  have isOk : ∀ n ∈ lamT xs, n ∈ lamDefs ∧ hdOk K n = true := fun n h => by
    refine ⟨(List.mem_filter.mp h).1, ?_⟩
    have h1 := c.hd _ (mem n h)
    have h2 := c.out _ (mem n h)
    unfold hdOk
    rw [h1, h2]; rfl
  have cs : ∀ p ∈ (lamDefs.filter (hdOk K)).map fun n => He.cT K (n, none), ∃ n, n ∈ lamT xs ∧ p = He.cT K (n, none) := fun p hp => by
    obtain ⟨n, h1, h2⟩ := List.mem_map.mp hp
    obtain ⟨h3, h4⟩ := List.mem_filter.mp h1
    exact ⟨n, inT n h3 h4, h2.symm⟩
  refine LamX.law_callTs (cs := (lamDefs.filter (hdOk K)).map fun n => He.cT K (n, none)) (CX := L2N.CX l.prog w) (sp := spF K (tabOf xs consts free excs lams) k i) KX G.T.g G.T.b G.T.builtins G.T.nolimit hg (fun p hp => ?_) (fun p hp => ?_) (fun p hp => ?_) G.T.bmain hobj hints (Nat.le_trans hlen hn2) hr
    (fun base hK hB hT => ?_) (fun s u => by have := hb s [u] (by rw [hy]; rfl); rw [hy] at this; exact this) (fun H hO hS => ?_) fun H e s' => ?_
  · obtain ⟨n, h1, rfl⟩ := cs p hp
    exact c.empty _ (mem n h1)
  · obtain ⟨n, h1, rfl⟩ := cs p hp
    exact c.out _ (mem n h1)
  · obtain ⟨n, h1, rfl⟩ := cs p hp
    exact PySem.W.codeHd_of_K KX (c.hd _ (mem n h1))
  · have t' := top_of hK hB cks few td c
    rw [hfa, ← hy]
    refine fns_ok (w := w) t' rfl rfl ⟨fun n hm => ?_⟩ cks k k (Nat.le_refl k) i x hx fd F
    have h1 : n ∈ lamT xs := List.contains_iff_mem.mp (List.all_eq_true.mp ls n hm)
    obtain ⟨h2, h3⟩ := isOk n h1
    refine ⟨hT _ (List.mem_map.mpr ⟨n, List.mem_filter.mpr ⟨h2, h3⟩, rfl⟩), List.contains_iff_mem.mpr ?_⟩
    exact List.mem_map.mpr ⟨n, List.mem_filter.mpr ⟨h2, h3⟩, rfl⟩
  · obtain ⟨g, hg⟩ := law ns hlen hbits
    refine ⟨[.scr ns], [], [], ⟨fun _ => False⟩, ⟨rfl, fun i j a h _ => by simp at h, fun a h => by simp at h, fun a h => h.elim, fun i a h => by simp at h, fun i h => by simp at h, fun p hp => ?_⟩, .cons ⟨a, rfl, hS.imp (fun z => ⟨z, fun z => z.elim (fun q => by simp at q) id⟩) id⟩ .nil, ?_⟩
    · obtain ⟨n, h1, rfl⟩ := List.mem_map.mp hp
      exact LamX.TabS.nil (hO _ (List.mem_map.mpr ⟨n, h1, rfl⟩))
    · show Gd (run (xs.map (·.f)) k i [.scr ns] []) _ _
      rw [hg]
      intro v H' μ' r e hv
      cases (show Fz K H' (Ms μ' _) v (.bool true) from hv)
      rfl
  · rintro ⟨a, B, H', cls, d, _, _, _, _, _, _, _, z⟩
    exact z
end RF
end
section
set_option Elab.async false
set_option linter.all false
set_option maxRecDepth 100000
/-! The evaluator's rules, for simp. -/
namespace RF
open PySem

/-- a def, its callees answered by C -/
def callD (C : Nat → List W → Gs → Out W) (d : Fn) (ws : List W) (g : Gs) : Out W :=
  if ws.length = d.pars then endF d.keeps g.length (evSs C d.body (startE d ws) g) else .no
theorem run_at {fs : List Fn} {i : Nat} {d : Fn} (h : fs[i]? = some d) (k : Nat) : run fs (k + 1) i = callD (run fs k) d := by
  funext ws g
  unfold run callD
  rw [h]

theorem toNat_inj : ∀ {a b : List Char}, a.map Char.toNat = b.map Char.toNat → a = b
  | [], [], _ => rfl
  | [], _ :: _, h => by cases h
  | _ :: _, [], h => by cases h
  | a :: r, b :: t, h => by
    have h1 : a.toNat = b.toNat := (List.cons.inj h).1
    have h2 := toNat_inj (List.cons.inj h).2
    have : a = b := by
      rw [← Char.ofNat_toNat a, ← Char.ofNat_toNat b, h1]
    rw [this, h2]
@[simp] theorem ofString_inj {a b : String} : Str.ofString a = Str.ofString b ↔ a = b := by
  refine ⟨fun h => ?_, fun h => by rw [h]⟩
  rw [Str.ofString_eq_toList, Str.ofString_eq_toList] at h
  have h1 : (a.toList.map Char.toNat).toArray = (b.toList.map Char.toNat).toArray := congrArg Str.cps h
  have h2 := toNat_inj (congrArg Array.toList h1)
  exact String.toList_inj.mp h2

theorem ite_line {α : Sort _} (n : Nat) (x y : α) : (if decide (n ≤ sizeLine) = true then x else y) = if n ≤ 16777216 then x else y := by
  by_cases h : n ≤ 16777216
  · rw [if_pos h]; exact if_pos (decide_eq_true (p := _ ≤ sizeLine) h)
  · rw [if_neg h, if_neg (by intro z; exact h (of_decide_eq_true z))]
theorem ite_line' {α : Sort _} (n : Nat) (x y : α) : (if decide (n < sizeLine) = true then x else y) = if n < 16777216 then x else y := by
  by_cases h : n < 16777216
  · rw [if_pos h]; exact if_pos (decide_eq_true (p := _ < sizeLine) h)
  · rw [if_neg h, if_neg (by intro z; exact h (of_decide_eq_true z))]
section
variable (C : Nat → List W → Gs → Out W) (env : Env) (g : Gs)
@[simp] theorem Exs_of_nil : Exs.of [] = .nil := id rfl
@[simp] theorem Exs_of_cons (e : Ex) (r : List Ex) : Exs.of (e :: r) = .cons e (Exs.of r) := id rfl
@[simp] theorem Tgs_of_nil : Tgs.of [] = .nil := id rfl
@[simp] theorem Tgs_of_cons (e : Tg) (r : List Tg) : Tgs.of (e :: r) = .cons e (Tgs.of r) := id rfl
@[simp] theorem Sts_of_nil : Sts.of [] = .nil := id rfl
@[simp] theorem Sts_of_cons (e : St) (r : List St) : Sts.of (e :: r) = .cons e (Sts.of r) := id rfl

/-! what follows is named, so that simp does not look at it before its turn -/
def getV (env : Env) (i : Nat) (g : Gs) : Out W := match env[i]? with | some (some w) => .ok w g | _ => .no
@[simp] theorem getV_0 (w : W) (r : Env) (g : Gs) : getV (some w :: r) 0 g = .ok w g := id rfl
@[simp] theorem getV_s (o : Option W) (r : Env) (i : Nat) (g : Gs) : getV (o :: r) (i + 1) g = getV r i g := id rfl
@[simp] theorem getV_1 (o : Option W) (r : Env) (g : Gs) : getV (o :: r) 1 g = getV r 0 g := id rfl
@[simp] theorem getV_2 (o : Option W) (r : Env) (g : Gs) : getV (o :: r) 2 g = getV r 1 g := id rfl
@[simp] theorem getV_3 (o : Option W) (r : Env) (g : Gs) : getV (o :: r) 3 g = getV r 2 g := id rfl
@[simp] theorem getV_4 (o : Option W) (r : Env) (g : Gs) : getV (o :: r) 4 g = getV r 3 g := id rfl
@[simp] theorem getV_5 (o : Option W) (r : Env) (g : Gs) : getV (o :: r) 5 g = getV r 4 g := id rfl
@[simp] theorem getV_6 (o : Option W) (r : Env) (g : Gs) : getV (o :: r) 6 g = getV r 5 g := id rfl
@[simp] theorem getV_7 (o : Option W) (r : Env) (g : Gs) : getV (o :: r) 7 g = getV r 6 g := id rfl
@[simp] theorem getV_8 (o : Option W) (r : Env) (g : Gs) : getV (o :: r) 8 g = getV r 7 g := id rfl
@[simp] theorem getV_9 (o : Option W) (r : Env) (g : Gs) : getV (o :: r) 9 g = getV r 8 g := id rfl
@[simp] theorem getV_10 (o : Option W) (r : Env) (g : Gs) : getV (o :: r) 10 g = getV r 9 g := id rfl
@[simp] theorem getV_11 (o : Option W) (r : Env) (g : Gs) : getV (o :: r) 11 g = getV r 10 g := id rfl
@[simp] theorem getV_12 (o : Option W) (r : Env) (g : Gs) : getV (o :: r) 12 g = getV r 11 g := id rfl
@[simp] theorem getV_13 (o : Option W) (r : Env) (g : Gs) : getV (o :: r) 13 g = getV r 12 g := id rfl
@[simp] theorem getV_14 (o : Option W) (r : Env) (g : Gs) : getV (o :: r) 14 g = getV r 13 g := id rfl
@[simp] theorem getV_15 (o : Option W) (r : Env) (g : Gs) : getV (o :: r) 15 g = getV r 14 g := id rfl
@[simp] theorem getV_16 (o : Option W) (r : Env) (g : Gs) : getV (o :: r) 16 g = getV r 15 g := id rfl
@[simp] theorem evE_var (i : Nat) : evE C (.var i) env g = getV env i g := id rfl
@[simp] theorem evE_cst (d : D) : evE C (.cst d) env g = .ok (.d d) g := id rfl
@[simp] theorem evE_glob (x : Str) (d : D) : evE C (.glob x d) env g = .ok (.d d) g := id rfl
def kTup2 (xs : List D) (g : Gs) : Out W := if xs.length ≤ 16777216 then .ok (.d (.tuple xs)) g else .no
@[simp] theorem kTup2_eq (xs : List D) (g : Gs) : kTup2 xs g = if xs.length ≤ 16777216 then .ok (.d (.tuple xs)) g else .no := id rfl
def kTup (ws : List W) (g : Gs) : Out W := (gives g ws).bind kTup2
@[simp] theorem kTup_eq (ws : List W) (g : Gs) : kTup ws g = (gives g ws).bind kTup2 := id rfl
@[simp] theorem evE_tup (es : Exs) : evE C (.tup es) env g = (evEs C es env g).bind kTup := by
  unfold kTup kTup2; simp only [← ite_line]; rfl
def kLst2 (xs : List D) (g : Gs) : Out W := if xs.length ≤ 16777216 then newL g xs else .no
@[simp] theorem kLst2_eq (xs : List D) (g : Gs) : kLst2 xs g = if xs.length ≤ 16777216 then newL g xs else .no := id rfl
def kLst (ws : List W) (g : Gs) : Out W := (gives g ws).bind kLst2
@[simp] theorem kLst_eq (ws : List W) (g : Gs) : kLst ws g = (gives g ws).bind kLst2 := id rfl
@[simp] theorem evE_lst (es : Exs) : evE C (.lst es) env g = (evEs C es env g).bind kLst := by
  unfold kLst kLst2; simp only [← ite_line]; rfl
def kFrz (n : Nat) (w : W) (g1 : Gs) : Out W := freezeAt n g1 w
@[simp] theorem kFrz_eq (n : Nat) (w : W) (g1 : Gs) : kFrz n w g1 = freezeAt n g1 w := id rfl
@[simp] theorem evE_frz (e : Ex) : evE C (.frz e) env g = (evE C e env g).bind (kFrz g.length) := id rfl
/-- two values, read -/
def qpk2 {α : Type} (g : Gs) (x y : W) (f : D → D → Out α) : Out α := match peek g x, peek g y with
  | some a, some b => f a b
  | _, _ => .no
def pkO {α : Type} : Option D → Option D → (D → D → Out α) → Out α
  | some a, some b, f => f a b
  | _, _, _ => .no
@[simp] theorem pkO_some {α : Type} (a b : D) (f : D → D → Out α) : pkO (some a) (some b) f = f a b := id rfl
@[simp] theorem pk2_O {α : Type} (g : Gs) (x y : W) (f : D → D → Out α) : qpk2 g x y f = pkO (peek g x) (peek g y) f := by
  unfold qpk2 pkO
  cases peek g x <;> cases peek g y <;> rfl
def pkR : Option (Option Ob) → Option D
  | some (some (.lst xs)) => some (.list xs)
  | _ => none
@[simp] theorem pkR_some (xs : List D) : pkR (some (some (.lst xs))) = some (.list xs) := id rfl
@[simp] theorem peek_R (g : Gs) (n : Nat) : peek g (.ref n) = pkR g[n]? := by
  cases h : g[n]? with
  | none => simp only [peek, h, pkR]
  | some o => cases o with
    | none => simp only [peek, h, pkR]
    | some o => cases o; simp only [peek, h, pkR]
theorem pk2_eq {α : Type} (g : Gs) (x y : W) (f : D → D → Out α) : ((Out.ofO g (peek g x)).bind fun x' _ => (Out.ofO g (peek g y)).bind fun y' _ => f x' y') = qpk2 g x y f := by
  unfold qpk2
  cases peek g x <;> cases peek g y <;> rfl
theorem pk2_some {α : Type} {g : Gs} {x y : W} {a b : D} (h : peek g x = some a) (k : peek g y = some b) (f : D → D → Out α) : qpk2 g x y f = f a b := by
  unfold qpk2; rw [h, k]
@[simp] def kBin2 (o : BO) (x : W) (y : W) (g2 : Gs) : Out W := qpk2 g2 x y (binW o g2)
@[simp] theorem kBin2_eq (o : BO) (x : W) (y : W) (g2 : Gs) : kBin2 o x y g2 = qpk2 g2 x y (binW o g2) := id rfl
def kBin (o : BO) (b : Ex) (x : W) (g1 : Gs) : Out W := (evE C b env g1).bind (kBin2 o x)
@[simp] theorem kBin_eq (o : BO) (b : Ex) (x : W) (g1 : Gs) : kBin C env o b x g1 = (evE C b env g1).bind (kBin2 o x) := id rfl
@[simp] theorem evE_bin (o : BO) (a b : Ex) : evE C (.bin o a b) env g = (evE C a env g).bind (kBin C env o b) := by
  unfold kBin kBin2; simp only [← pk2_eq]; rfl
def kNeg (x : W) (g1 : Gs) : Out W := match x with
    | .d (.int i) => .ok (.d (.int (-i))) g1
    | _ => .no
@[simp] theorem kNeg_int (i : Int) (g1 : Gs) : kNeg (.d (.int i)) g1 = .ok (.d (.int (-i))) g1 := id rfl
@[simp] theorem evE_neg (a : Ex) : evE C (.neg a) env g = (evE C a env g).bind kNeg := id rfl
def cmpO (g : Gs) (o : CO) (x y : D) : Out Bool := Out.ofO g (cmpD o x y)
@[simp] theorem cmpO_eq (g : Gs) (o : CO) (x y : D) : cmpO g o x y = Out.ofO g (cmpD o x y) := id rfl
def kB (r : Bool) (g : Gs) : Out W := .ok (.d (.bool r)) g
@[simp] theorem kB_eq (r : Bool) (g : Gs) : kB r g = .ok (.d (.bool r)) g := id rfl
def kCmp2 (o : CO) (x y : W) (g2 : Gs) : Out Bool := qpk2 g2 x y (cmpO g2 o)
@[simp] theorem kCmp2_eq (o : CO) (x y : W) (g2 : Gs) : kCmp2 o x y g2 = qpk2 g2 x y (cmpO g2 o) := id rfl
def kCmp (o : CO) (b : Ex) (x : W) (g1 : Gs) : Out Bool := (evE C b env g1).bind (kCmp2 o x)
@[simp] theorem kCmp_eq (o : CO) (b : Ex) (x : W) (g1 : Gs) : kCmp C env o b x g1 = (evE C b env g1).bind (kCmp2 o x) := id rfl
theorem bb {α β γ : Type} (o : Out α) (f : α → Gs → Out β) (h : β → Gs → Out γ) : (o.bind f).bind h = o.bind fun a g => (f a g).bind h := by cases o <;> rfl
theorem pk2_bind {α β : Type} (g : Gs) (x y : W) (f : D → D → Out α) (h : α → Gs → Out β) : (qpk2 g x y f).bind h = qpk2 g x y fun a b => (f a b).bind h := by
  unfold qpk2; cases peek g x <;> cases peek g y <;> rfl
theorem ofO_bind {α β : Type} (g g' : Gs) (o : Option α) (h : α → Gs → Out β) : (Out.ofO g o).bind h = (Out.ofO g' o).bind fun a _ => h a g := by cases o <;> rfl
@[simp] theorem evT_cmp (o : CO) (a b : Ex) : evT C (.cmp o a b) env g = (evE C a env g).bind (kCmp C env o b) := by
  unfold kCmp kCmp2
  simp only [← pk2_eq]
  show ((evE C a env g).bind fun x g1 => (evE C b env g1).bind fun y g2 => (Out.ofO g2 (peek g2 x)).bind fun x' _ => (Out.ofO g2 (peek g2 y)).bind fun y' _ => (Out.ofO g2 (cmpD o x' y')).bind fun r _ => .ok r g2) = _
  congr; funext x g1; congr; funext y g2; congr; funext x' _; congr; funext y' _
  simp only [cmpO]; cases cmpD o x' y' <;> rfl
@[simp] theorem evE_cmp (o : CO) (a b : Ex) : evE C (.cmp o a b) env g = ((evE C a env g).bind (kCmp C env o b)).bind kB := by
  unfold kCmp kCmp2
  simp only [← pk2_eq, bb]
  show ((evE C a env g).bind fun x g1 => (evE C b env g1).bind fun y g2 => (Out.ofO g2 (peek g2 x)).bind fun x' _ => (Out.ofO g2 (peek g2 y)).bind fun y' _ => (Out.ofO g2 (cmpD o x' y')).bind fun r _ => Out.ok (W.d (.bool r)) g2) = _
  congr; funext x g1; congr; funext y g2; congr; funext x' _; congr; funext y' _
  simp only [cmpO]; cases cmpD o x' y' <;> rfl
/-- the second half of a chain -/
def kCh4 (p : CO) (y z : W) (g3 : Gs) : Out Bool := qpk2 g3 y z (cmpO g3 p)
@[simp] theorem kCh4_eq (p : CO) (y z : W) (g3 : Gs) : kCh4 p y z g3 = qpk2 g3 y z (cmpO g3 p) := id rfl
def kCh3 (p : CO) (c : Ex) (y : W) (r : Bool) (g2 : Gs) : Out Bool := if r = true then (evE C c env g2).bind (kCh4 p y) else .ok false g2
@[simp] theorem kCh3_t (p : CO) (c : Ex) (y : W) (g2 : Gs) : kCh3 C env p c y true g2 = (evE C c env g2).bind (kCh4 p y) := id rfl
@[simp] theorem kCh3_f (p : CO) (c : Ex) (y : W) (g2 : Gs) : kCh3 C env p c y false g2 = .ok false g2 := id rfl
theorem kCh3_eq (p : CO) (c : Ex) (y : W) (r : Bool) (g2 : Gs) : kCh3 C env p c y r g2 = if r = true then (evE C c env g2).bind (kCh4 p y) else .ok false g2 := rfl
def kCh2 (o p : CO) (c : Ex) (x y : W) (g2 : Gs) : Out Bool := (qpk2 g2 x y (cmpO g2 o)).bind (kCh3 C env p c y)
@[simp] theorem kCh2_eq (o p : CO) (c : Ex) (x y : W) (g2 : Gs) : kCh2 C env o p c x y g2 = (qpk2 g2 x y (cmpO g2 o)).bind (kCh3 C env p c y) := id rfl
def kCh (o p : CO) (b c : Ex) (x : W) (g1 : Gs) : Out Bool := (evE C b env g1).bind (kCh2 C env o p c x)
@[simp] theorem kCh_eq (o p : CO) (b c : Ex) (x : W) (g1 : Gs) : kCh C env o p b c x g1 = (evE C b env g1).bind (kCh2 C env o p c x) := id rfl
theorem ch_aux {x y : W} {g2 : Gs} {o : CO} (f : Bool → Gs → Out Bool) : ((Out.ofO g2 (peek g2 x)).bind fun x' _ => (Out.ofO g2 (peek g2 y)).bind fun y' _ => (Out.ofO g2 (cmpD o x' y')).bind fun r _ => f r g2) = (qpk2 g2 x y (cmpO g2 o)).bind f := by
  rw [pk2_bind, ← pk2_eq]
  congr; funext x' _; congr; funext y' _
  simp only [cmpO]; cases cmpD o x' y' <;> rfl
@[simp] theorem evT_chain (o p : CO) (a b c : Ex) : evT C (.chain o p a b c) env g = (evE C a env g).bind (kCh C env o p b c) := by
  show ((evE C a env g).bind fun x g1 => (evE C b env g1).bind fun y g2 => (Out.ofO g2 (peek g2 x)).bind fun x' _ => (Out.ofO g2 (peek g2 y)).bind fun y' _ => (Out.ofO g2 (cmpD o x' y')).bind fun r _ =>
      if r = true then (evE C c env g2).bind fun z g3 => (Out.ofO g3 (peek g3 y)).bind fun y' _ => (Out.ofO g3 (peek g3 z)).bind fun z' _ => (Out.ofO g3 (cmpD p y' z')).bind fun r _ => .ok r g3
      else .ok false g2) = _
  unfold kCh kCh2
  congr; funext x g1; congr; funext y g2
  rw [← ch_aux]
  congr; funext x' _; congr; funext y' _; congr; funext r _
  simp only [kCh3]
  split
  · unfold kCh4
    congr; funext z g3
    rw [ch_aux]
    unfold qpk2 cmpO
    cases peek g3 y <;> cases peek g3 z <;> try rfl
    rename_i a b; show (Out.ofO g3 (cmpD p a b)).bind _ = Out.ofO g3 (cmpD p a b)
    cases cmpD p a b <;> rfl
  · rfl
@[simp] theorem evE_chain (o p : CO) (a b c : Ex) : evE C (.chain o p a b c) env g = ((evE C a env g).bind (kCh C env o p b c)).bind kB := by
  rw [← evT_chain]
  show ((evE C a env g).bind fun x g1 => (evE C b env g1).bind fun y g2 => (Out.ofO g2 (peek g2 x)).bind fun x' _ => (Out.ofO g2 (peek g2 y)).bind fun y' _ => (Out.ofO g2 (cmpD o x' y')).bind fun r _ =>
      if r = true then (evE C c env g2).bind fun z g3 => (Out.ofO g3 (peek g3 y)).bind fun y' _ => (Out.ofO g3 (peek g3 z)).bind fun z' _ => (Out.ofO g3 (cmpD p y' z')).bind fun r _ => .ok (.d (.bool r)) g3
      else .ok (.d (.bool false)) g2) = Out.bind ((evE C a env g).bind fun x g1 => (evE C b env g1).bind fun y g2 => (Out.ofO g2 (peek g2 x)).bind fun x' _ => (Out.ofO g2 (peek g2 y)).bind fun y' _ => (Out.ofO g2 (cmpD o x' y')).bind fun r _ =>
      if r = true then (evE C c env g2).bind fun z g3 => (Out.ofO g3 (peek g3 y)).bind fun y' _ => (Out.ofO g3 (peek g3 z)).bind fun z' _ => (Out.ofO g3 (cmpD p y' z')).bind fun r _ => .ok r g3
      else .ok false g2) kB
  simp only [bb]
  congr; funext x g1; congr; funext y g2; congr; funext x' _; congr; funext y' _; congr; funext r _
  split
  · simp only [bb]; rfl
  · rfl
def kNt (x : W) (g1 : Gs) : Out W := (asB g1 x).bind fun b g2 => .ok (.d (.bool (!b))) g2
@[simp] theorem kNt_b (b : Bool) (g1 : Gs) : kNt (.d (.bool b)) g1 = .ok (.d (.bool (!b))) g1 := id rfl
@[simp] theorem evE_nt (a : Ex) : evE C (.nt a) env g = (evE C a env g).bind kNt := id rfl
@[simp] theorem evE_bone (a : Ex) : evE C (.bone a) env g = evE C a env g := id rfl
def kLand (r : Ex) (x : W) (g1 : Gs) : Out W := (asB g1 x).bind fun b g2 => if b = true then evE C r env g2 else .ok (.d (.bool false)) g2
@[simp] theorem kLand_b (r : Ex) (b : Bool) (g1 : Gs) : kLand C env r (.d (.bool b)) g1 = if b = true then evE C r env g1 else .ok (.d (.bool false)) g1 := id rfl
@[simp] theorem evE_land (a r : Ex) : evE C (.land a r) env g = (evE C a env g).bind (kLand C env r) := id rfl
def kLor (r : Ex) (x : W) (g1 : Gs) : Out W := (asB g1 x).bind fun b g2 => if b = true then .ok (.d (.bool true)) g2 else evE C r env g2
@[simp] theorem kLor_b (r : Ex) (b : Bool) (g1 : Gs) : kLor C env r (.d (.bool b)) g1 = if b = true then .ok (.d (.bool true)) g1 else evE C r env g1 := id rfl
@[simp] theorem evE_lor (a r : Ex) : evE C (.lor a r) env g = (evE C a env g).bind (kLor C env r) := id rfl
def kIte (a b : Ex) (t : Bool) (g1 : Gs) : Out W := if t = true then evE C a env g1 else evE C b env g1
@[simp] theorem kIte_t (a b : Ex) (g1 : Gs) : kIte C env a b true g1 = evE C a env g1 := id rfl
@[simp] theorem kIte_f (a b : Ex) (g1 : Gs) : kIte C env a b false g1 = evE C b env g1 := id rfl
@[simp] theorem kIte_d (a b : Ex) (p : Prop) [Decidable p] (g1 : Gs) : kIte C env a b (decide p) g1 = if p then evE C a env g1 else evE C b env g1 := by unfold kIte; split <;> rename_i h <;> simp at h <;> simp [h]
@[simp] theorem evE_ite (c a b : Ex) : evE C (.ite c a b) env g = (evT C c env g).bind (kIte C env a b) := id rfl
def idxO (g : Gs) (x y : D) : Out W := (Out.ofO g (idxD x y)).bind fun z _ => .ok (.d z) g
@[simp] theorem idxO_tup (g : Gs) (xs : List D) (i : Int) : idxO g (.tuple xs) (.int i) = (Out.ofO g (L2.atI xs i)).bind fun z _ => .ok (.d z) g := id rfl
@[simp] theorem idxO_lst (g : Gs) (xs : List D) (i : Int) : idxO g (.list xs) (.int i) = (Out.ofO g (L2.atI xs i)).bind fun z _ => .ok (.d z) g := id rfl
def kIdx2 (x : W) (y : W) (g2 : Gs) : Out W := qpk2 g2 x y (idxO g2)
@[simp] theorem kIdx2_eq (x : W) (y : W) (g2 : Gs) : kIdx2 x y g2 = qpk2 g2 x y (idxO g2) := id rfl
def kIdx (i : Ex) (x : W) (g1 : Gs) : Out W := (evE C i env g1).bind (kIdx2 x)
@[simp] theorem kIdx_eq (i : Ex) (x : W) (g1 : Gs) : kIdx C env i x g1 = (evE C i env g1).bind (kIdx2 x) := id rfl
@[simp] theorem evE_idx (a i : Ex) : evE C (.idx a i) env g = (evE C a env g).bind (kIdx C env i) := by
  unfold kIdx kIdx2
  simp only [← pk2_eq]; rfl
def kAsB (x : W) (g : Gs) : Out Bool := asB g x
@[simp] theorem kAsB_b (b : Bool) (g : Gs) : kAsB (.d (.bool b)) g = .ok b g := id rfl
@[simp] theorem evT_idx (a i : Ex) : evT C (.idx a i) env g = (evE C (.idx a i) env g).bind kAsB := by
  show ((evE C a env g).bind fun x g1 => (evE C i env g1).bind fun y g2 => (Out.ofO g2 (peek g2 x)).bind fun x' _ => (Out.ofO g2 (peek g2 y)).bind fun y' _ => (Out.ofO g2 (idxD x' y')).bind fun z _ => asB g2 (.d z)) = Out.bind ((evE C a env g).bind fun x g1 => (evE C i env g1).bind fun y g2 => (Out.ofO g2 (peek g2 x)).bind fun x' _ => (Out.ofO g2 (peek g2 y)).bind fun y' _ => (Out.ofO g2 (idxD x' y')).bind fun z _ => .ok (.d z) g2) kAsB
  simp only [bb]; rfl
def kSl3 (x : W) (l h : Option Int) (g3 : Gs) : Out W := match peek g3 x with
  | some x' => sliceW g3 x' l h
  | none => .no
def slO (g : Gs) (l h : Option Int) : Option D → Out W
  | some x => sliceW g x l h
  | none => .no
@[simp] theorem slO_some (g : Gs) (l h : Option Int) (x : D) : slO g l h (some x) = sliceW g x l h := id rfl
@[simp] theorem kSl3_R (n : Nat) (l h : Option Int) (g3 : Gs) : kSl3 (.ref n) l h g3 = slO g3 l h (pkR g3[n]?) := by
  unfold kSl3 slO
  rw [peek_R]
@[simp] theorem kSl3_d (x : D) (l h : Option Int) (g3 : Gs) : kSl3 (.d x) l h g3 = sliceW g3 x l h := id rfl
def kSl2 (x : W) (hi : Exo) (l : Option Int) (g2 : Gs) : Out W := (evO C hi env g2).bind (kSl3 x l)
@[simp] theorem kSl2_eq (x : W) (hi : Exo) (l : Option Int) (g2 : Gs) : kSl2 C env x hi l g2 = (evO C hi env g2).bind (kSl3 x l) := id rfl
def kSl (lo hi : Exo) (x : W) (g1 : Gs) : Out W := (evO C lo env g1).bind (kSl2 C env x hi)
@[simp] theorem kSl_eq (lo hi : Exo) (x : W) (g1 : Gs) : kSl C env lo hi x g1 = (evO C lo env g1).bind (kSl2 C env x hi) := id rfl
@[simp] theorem evE_sl (a : Ex) (lo hi : Exo) : evE C (.sl a lo hi) env g = (evE C a env g).bind (kSl C env lo hi) := by
  show ((evE C a env g).bind fun x g1 => (evO C lo env g1).bind fun l g2 => (evO C hi env g2).bind fun h g3 => (Out.ofO g3 (peek g3 x)).bind fun x' _ => sliceW g3 x' l h) = _
  unfold kSl kSl2 kSl3
  congr; funext x g1; congr; funext l g2; congr; funext h g3
  cases peek g3 x <;> rfl
def kCall (f : Nat) (ws : List W) (g1 : Gs) : Out W := C f ws g1
@[simp] theorem kCall_eq (f : Nat) (ws : List W) (g1 : Gs) : kCall C f ws g1 = C f ws g1 := id rfl
@[simp] theorem evE_call (f : Nat) (es : Exs) : evE C (.call f es) env g = (evEs C es env g).bind (kCall C f) := id rfl
@[simp] theorem evT_call (f : Nat) (es : Exs) : evT C (.call f es) env g = ((evEs C es env g).bind (kCall C f)).bind kAsB := by
  show ((evEs C es env g).bind fun ws g1 => (C f ws g1).bind fun x g2 => asB g2 x) = _
  simp only [bb]; rfl
def biP (b : Bi) (g : Gs) : Option (List D) → Out W
  | some xs => biW b g xs
  | none => .no
@[simp] theorem biP_some (b : Bi) (g : Gs) (xs : List D) : biP b g (some xs) = biW b g xs := id rfl
def kBi (b : Bi) (ws : List W) (g1 : Gs) : Out W := biP b g1 (peeks g1 ws)
@[simp] theorem kBi_eq (b : Bi) (ws : List W) (g1 : Gs) : kBi b ws g1 = biP b g1 (peeks g1 ws) := id rfl
@[simp] theorem evE_bi (b : Bi) (es : Exs) : evE C (.bi b es) env g = (evEs C es env g).bind (kBi b) := by
  show ((evEs C es env g).bind fun ws g1 => (Out.ofO g1 (peeks g1 ws)).bind fun xs _ => biW b g1 xs) = _
  congr; funext ws g1
  unfold kBi; cases peeks g1 ws <;> rfl
@[simp] theorem evT_bi (b : Bi) (es : Exs) : evT C (.bi b es) env g = ((evEs C es env g).bind (kBi b)).bind kAsB := by
  show ((evEs C es env g).bind fun ws g1 => (Out.ofO g1 (peeks g1 ws)).bind fun xs _ => (biW b g1 xs).bind fun x g2 => asB g2 x) = _
  simp only [bb]
  congr; funext ws g1
  unfold kBi; cases peeks g1 ws <;> rfl
def isiP (ts : List Ty) (g : Gs) : Option D → Out Bool
  | some x => .ok (ts.any fun t => isTy t x) g
  | none => .no
@[simp] theorem isiP_1 (t : Ty) (g : Gs) (x : D) : isiP [t] g (some x) = .ok (isTy t x) g := by simp [isiP]
def kIsi (ts : List Ty) (x : W) (g1 : Gs) : Out Bool := isiP ts g1 (peek g1 x)
@[simp] theorem kIsi_eq (ts : List Ty) (x : W) (g1 : Gs) : kIsi ts x g1 = isiP ts g1 (peek g1 x) := id rfl
@[simp] theorem evT_isi (a : Ex) (ts : List Ty) : evT C (.isi a ts) env g = (evE C a env g).bind (kIsi ts) := by
  show ((evE C a env g).bind fun x g1 => (Out.ofO g1 (peek g1 x)).bind fun x' _ => .ok (ts.any fun t => isTy t x') g1) = _
  congr; funext x g1
  unfold kIsi; cases peek g1 x <;> rfl
@[simp] theorem evE_isi (a : Ex) (ts : List Ty) : evE C (.isi a ts) env g = ((evE C a env g).bind (kIsi ts)).bind kB := by
  show ((evE C a env g).bind fun x g1 => (Out.ofO g1 (peek g1 x)).bind fun x' _ => Out.ok (W.d (.bool (ts.any fun t => isTy t x'))) g1) = _
  simp only [bb]
  congr; funext x g1
  unfold kIsi; cases peek g1 x <;> rfl
def kNew (ys : List D) (g2 : Gs) : Out W := newL g2 ys
@[simp] theorem kNew_eq (ys : List D) (g2 : Gs) : kNew ys g2 = newL g2 ys := id rfl
/-- a comprehension's turns -/
def lcRun (own : List Nat) (tg : Tg) (ifs : Exo) (elt : Ex) (xs : List D) (g1 : Gs) : Out (List D) := noExc (lcGo (fun x => bindT tg (.d x) (wipeE env own)) (fun env g => evTo C ifs env g) (fun env g => evE C elt env g) xs [] g1)
def kLc (own : List Nat) (tg : Tg) (ifs : Exo) (elt : Ex) (xs : List D) (g1 : Gs) : Out W := if xs.length ≤ 16777216 then (lcRun C env own tg ifs elt xs g1).bind kNew else .no
@[simp] theorem kLc_eq (own : List Nat) (tg : Tg) (ifs : Exo) (elt : Ex) (xs : List D) (g1 : Gs) : kLc C env own tg ifs elt xs g1 = if xs.length ≤ 16777216 then (lcRun C env own tg ifs elt xs g1).bind kNew else .no := id rfl
@[simp] theorem evE_lc (elt : Ex) (tg : Tg) (it : Itx) (ifs : Exo) (own : List Nat) : evE C (.lc elt tg it ifs own) env g = (evI C it env g).bind (kLc C env own tg ifs elt) := by
  unfold kLc lcRun
  simp only [← ite_line]; rfl

def kNtT (b : Bool) (g1 : Gs) : Out Bool := .ok (!b) g1
@[simp] theorem kNtT_eq (b : Bool) (g1 : Gs) : kNtT b g1 = .ok (!b) g1 := id rfl
@[simp] theorem evT_nt (a : Ex) : evT C (.nt a) env g = (evT C a env g).bind kNtT := id rfl
@[simp] theorem evT_bone (a : Ex) : evT C (.bone a) env g = evT C a env g := id rfl
def kLandT (r : Ex) (b : Bool) (g1 : Gs) : Out Bool := if b = true then evT C r env g1 else .ok false g1
@[simp] theorem kLandT_eq (r : Ex) (b : Bool) (g1 : Gs) : kLandT C env r b g1 = if b = true then evT C r env g1 else .ok false g1 := id rfl
@[simp] theorem evT_land (a r : Ex) : evT C (.land a r) env g = (evT C a env g).bind (kLandT C env r) := id rfl
def kLorT (r : Ex) (b : Bool) (g1 : Gs) : Out Bool := if b = true then .ok true g1 else evT C r env g1
@[simp] theorem kLorT_eq (r : Ex) (b : Bool) (g1 : Gs) : kLorT C env r b g1 = if b = true then .ok true g1 else evT C r env g1 := id rfl
@[simp] theorem evT_lor (a r : Ex) : evT C (.lor a r) env g = (evT C a env g).bind (kLorT C env r) := id rfl
@[simp] theorem evT_var (i : Nat) : evT C (.var i) env g = (getV env i g).bind kAsB := by
  show (match env[i]? with | some (some w) => asB g w | _ => .no) = _
  unfold getV
  split <;> rfl
@[simp] theorem evT_cst (d : D) : evT C (.cst d) env g = asB g (.d d) := id rfl
@[simp] theorem evEs_nil : evEs C .nil env g = .ok [] g := id rfl
def kCons2 (w : W) (ws : List W) (g2 : Gs) : Out (List W) := .ok (w :: ws) g2
@[simp] theorem kCons2_eq (w : W) (ws : List W) (g2 : Gs) : kCons2 w ws g2 = .ok (w :: ws) g2 := id rfl
def kCons (r : Exs) (w : W) (g1 : Gs) : Out (List W) := (evEs C r env g1).bind (kCons2 w)
@[simp] theorem kCons_eq (r : Exs) (w : W) (g1 : Gs) : kCons C env r w g1 = (evEs C r env g1).bind (kCons2 w) := id rfl
@[simp] theorem evEs_cons (e : Ex) (r : Exs) : evEs C (.cons e r) env g = (evE C e env g).bind (kCons C env r) := id rfl
@[simp] theorem evO_none : evO C .none env g = .ok none g := id rfl
@[simp] theorem evO_some (e : Ex) : evO C (.some e) env g = (evE C e env g).bind partI := id rfl
@[simp] theorem partI_int (i : Int) (g : Gs) : partI (.d (.int i)) g = .ok (some i) g := id rfl
@[simp] theorem evTo_none : evTo C .none env g = .ok true g := id rfl
@[simp] theorem evTo_some (e : Ex) : evTo C (.some e) env g = evT C e env g := id rfl
def kSeq (w : W) (g1 : Gs) : Out (List D) := match w with
    | .d x => Out.ofO g1 (seqD x)
    | _ => .no
@[simp] theorem kSeq_tup (xs : List D) (g1 : Gs) : kSeq (.d (.tuple xs)) g1 = .ok xs g1 := id rfl
@[simp] theorem kSeq_lst (xs : List D) (g1 : Gs) : kSeq (.d (.list xs)) g1 = .ok xs g1 := id rfl
@[simp] theorem evI_seq (e : Ex) : evI C (.seq e) env g = (evE C e env g).bind kSeq := id rfl
def kRng (x : W) (g1 : Gs) : Out (List D) := match x with
    | .d (.int n) => if decide (n < 4611686018427387904) && decide (-4611686018427387904 ≤ n) = true then .ok ((List.range n.toNat).map fun i => .int (0 + (i : Nat))) g1 else .no
    | _ => .no
def upto (n : Nat) : List D := (List.range n).map fun i => .int (i : Nat)
@[simp] theorem upto_2 : upto 2 = [.int 0, .int 1] := id rfl
@[simp] theorem upto_3 : upto 3 = [.int 0, .int 1, .int 2] := id rfl
@[simp] theorem upto_4 : upto 4 = [.int 0, .int 1, .int 2, .int 3] := id rfl
@[simp] theorem upto_length (n : Nat) : (upto n).length = n := by simp [upto]
theorem kRng_eq (n : Int) (g1 : Gs) : kRng (.d (.int n)) g1 = if n < 4611686018427387904 ∧ -4611686018427387904 ≤ n then .ok (upto n.toNat) g1 else .no := by
  simp only [kRng, Bool.and_eq_true, decide_eq_true_eq, Int.zero_add]; rfl
theorem kRng_of {n : Int} (h0 : 0 ≤ n) (h1 : n ≤ 1000000) (g1 : Gs) : kRng (.d (.int n)) g1 = .ok (upto n.toNat) g1 := by
  rw [kRng_eq, if_pos ⟨by omega, by omega⟩]
@[simp] theorem kRng_2 (g1 : Gs) : kRng (.d (.int 2)) g1 = .ok (upto 2) g1 := kRng_of (by omega) (by omega) g1
@[simp] theorem kRng_3 (g1 : Gs) : kRng (.d (.int 3)) g1 = .ok (upto 3) g1 := kRng_of (by omega) (by omega) g1
@[simp] theorem kRng_4 (g1 : Gs) : kRng (.d (.int 4)) g1 = .ok (upto 4) g1 := kRng_of (by omega) (by omega) g1
@[simp] theorem evI_rng1 (a : Ex) : evI C (.rng1 a) env g = (evE C a env g).bind kRng := id rfl
def kRng2b (x y : W) (g2 : Gs) : Out (List D) := match x, y with
    | .d (.int m), .d (.int n) => if decide (n < 4611686018427387904) && decide (-4611686018427387904 ≤ n) && decide (m < 4611686018427387904) && decide (-4611686018427387904 ≤ m) = true then .ok ((List.range (n - m).toNat).map fun i => .int (m + (i : Nat))) g2 else .no
    | _, _ => .no
@[simp] theorem kRng2b_eq (m n : Int) (g2 : Gs) : kRng2b (.d (.int m)) (.d (.int n)) g2 = if ((n < 4611686018427387904 ∧ -4611686018427387904 ≤ n) ∧ m < 4611686018427387904) ∧ -4611686018427387904 ≤ m then .ok ((List.range (n - m).toNat).map fun i => .int (m + (i : Nat))) g2 else .no := by
  simp only [kRng2b, Bool.and_eq_true, decide_eq_true_eq]
def kRng2 (b : Ex) (x : W) (g1 : Gs) : Out (List D) := (evE C b env g1).bind (kRng2b x)
@[simp] theorem kRng2_eq (b : Ex) (x : W) (g1 : Gs) : kRng2 C env b x g1 = (evE C b env g1).bind (kRng2b x) := id rfl
@[simp] theorem evI_rng2 (a b : Ex) : evI C (.rng2 a b) env g = (evE C a env g).bind (kRng2 C env b) := id rfl
def kZip2 (x y : W) (g2 : Gs) : Out (List D) := match x, y with
    | .d (.list xs), .d (.list ys) => .ok ((xs.zip ys).map fun p => .tuple [p.1, p.2]) g2
    | .d (.tuple xs), .d (.tuple ys) => .ok ((xs.zip ys).map fun p => .tuple [p.1, p.2]) g2
    | _, _ => .no
@[simp] theorem kZip2_l (xs ys : List D) (g2 : Gs) : kZip2 (.d (.list xs)) (.d (.list ys)) g2 = .ok ((xs.zip ys).map fun p => .tuple [p.1, p.2]) g2 := id rfl
@[simp] theorem kZip2_t (xs ys : List D) (g2 : Gs) : kZip2 (.d (.tuple xs)) (.d (.tuple ys)) g2 = .ok ((xs.zip ys).map fun p => .tuple [p.1, p.2]) g2 := id rfl
def kZip (b : Ex) (x : W) (g1 : Gs) : Out (List D) := (evE C b env g1).bind (kZip2 x)
@[simp] theorem kZip_eq (b : Ex) (x : W) (g1 : Gs) : kZip C env b x g1 = (evE C b env g1).bind (kZip2 x) := id rfl
@[simp] theorem evI_zip (a b : Ex) : evI C (.zip a b) env g = (evE C a env g).bind (kZip C env b) := id rfl
def kEnum (x : W) (g1 : Gs) : Out (List D) := match x with
    | .d (.list xs) => .ok (xs.mapIdx fun i y => .tuple [.int (i : Nat), y]) g1
    | .d (.tuple xs) => .ok (xs.mapIdx fun i y => .tuple [.int (i : Nat), y]) g1
    | _ => .no
@[simp] theorem kEnum_t (xs : List D) (g1 : Gs) : kEnum (.d (.tuple xs)) g1 = .ok (xs.mapIdx fun i y => .tuple [.int (i : Nat), y]) g1 := id rfl
def kRng3c (x y z : W) (g3 : Gs) : Out (List D) := rng3W g3 x y z
@[simp] theorem kRng3c_eq (x y z : W) (g3 : Gs) : kRng3c x y z g3 = rng3W g3 x y z := id rfl
def kRng3b (c : Ex) (x y : W) (g2 : Gs) : Out (List D) := (evE C c env g2).bind (kRng3c x y)
@[simp] theorem kRng3b_eq (c : Ex) (x y : W) (g2 : Gs) : kRng3b C env c x y g2 = (evE C c env g2).bind (kRng3c x y) := id rfl
def kRng3 (b c : Ex) (x : W) (g1 : Gs) : Out (List D) := (evE C b env g1).bind (kRng3b C env c x)
@[simp] theorem kRng3_eq (b c : Ex) (x : W) (g1 : Gs) : kRng3 C env b c x g1 = (evE C b env g1).bind (kRng3b C env c x) := id rfl
@[simp] theorem evI_rng3 (a b c : Ex) : evI C (.rng3 a b c) env g = (evE C a env g).bind (kRng3 C env b c) := id rfl
/-! methods and f-strings -/
def kMe2 (m : Me) (x y : W) (g2 : Gs) : Out W := qpk2 g2 x y (meW m g2)
@[simp] theorem kMe2_eq (m : Me) (x y : W) (g2 : Gs) : kMe2 m x y g2 = qpk2 g2 x y (meW m g2) := id rfl
def kMe1 (m : Me) (e : Ex) (x : W) (g1 : Gs) : Bool → Out W
  | true => (evE C e env g1).bind (kMe2 m x)
  | false => .no
@[simp] theorem kMe1_t (m : Me) (e : Ex) (x : W) (g1 : Gs) : kMe1 C env m e x g1 true = (evE C e env g1).bind (kMe2 m x) := id rfl
def kMe (m : Me) (e : Ex) (x : W) (g1 : Gs) : Out W := kMe1 C env m e x g1 (meRecv m (peek g1 x))
@[simp] theorem kMe_eq (m : Me) (e : Ex) (x : W) (g1 : Gs) : kMe C env m e x g1 = kMe1 C env m e x g1 (meRecv m (peek g1 x)) := id rfl
@[simp] theorem evE_meth (m : Me) (o e : Ex) : evE C (.meth m o e) env g = (evE C o env g).bind (kMe C env m e) := by
  show ((evE C o env g).bind fun x g1 => if meRecv m (peek g1 x) = true then (evE C e env g1).bind fun y g2 => (Out.ofO g2 (peek g2 x)).bind fun x' _ => (Out.ofO g2 (peek g2 y)).bind fun y' _ => meW m g2 x' y' else .no) = _
  congr; funext x g1
  unfold kMe kMe1 kMe2
  cases meRecv m (peek g1 x)
  · rfl
  · simp only [pk2_eq, if_pos]
@[simp] theorem meRecv_split (x : Str) : meRecv .split (some (.str x)) = true := id rfl
@[simp] theorem meRecv_join (x : Str) : meRecv .join (some (.str x)) = true := id rfl
@[simp] theorem meRecv_index (x : List D) : meRecv .index (some (.list x)) = true := id rfl
@[simp] theorem meRecv_count (x : List D) : meRecv .count (some (.list x)) = true := id rfl
def fmtO (g : Gs) : Option D → Out W
  | some x => fmtW g x
  | none => .no
@[simp] theorem fmtO_some (g : Gs) (x : D) : fmtO g (some x) = fmtW g x := id rfl
def kFmt (x : W) (g1 : Gs) : Out W := fmtO g1 (peek g1 x)
@[simp] theorem kFmt_eq (x : W) (g1 : Gs) : kFmt x g1 = fmtO g1 (peek g1 x) := id rfl
@[simp] theorem evE_fmt (e : Ex) : evE C (.fmt e) env g = (evE C e env g).bind kFmt := by
  show ((evE C e env g).bind fun x g1 => (Out.ofO g1 (peek g1 x)).bind fun x' _ => fmtW g1 x') = _
  congr; funext x g1
  unfold kFmt
  cases peek g1 x <;> rfl
@[simp] theorem fmtW_str (g : Gs) (x : Str) : fmtW g (.str x) = .ok (.d (.str x)) g := id rfl
def kJend (z : Str) (g1 : Gs) : Out W := .ok (.d (.str z)) g1
@[simp] theorem kJend_eq (z : Str) (g1 : Gs) : kJend z g1 = .ok (.d (.str z)) g1 := id rfl
@[simp] theorem evE_fstr (es : Exs) : evE C (.fstr es) env g = (evJ C es Str.empty env g).bind kJend := id rfl
@[simp] theorem evJ_nil (acc : Str) : evJ C .nil acc env g = .ok acc g := id rfl
def kJ1 (r : Exs) (z : Str) (g1 : Gs) : Bool → Out Str
  | true => evJ C r z env g1
  | false => .no
@[simp] theorem kJ1_t (r : Exs) (z : Str) (g1 : Gs) : kJ1 C env r z g1 true = evJ C r z env g1 := id rfl
def kJ (r : Exs) (acc : Str) (w : W) (g1 : Gs) : Out Str := match w with
  | .d (.str y) => kJ1 C env r (acc ++ y) g1 (okS (acc ++ y))
  | _ => .no
@[simp] theorem kJ_str (r : Exs) (acc y : Str) (g1 : Gs) : kJ C env r acc (.d (.str y)) g1 = kJ1 C env r (acc ++ y) g1 (okS (acc ++ y)) := id rfl
@[simp] theorem evJ_cons (e : Ex) (r : Exs) (acc : Str) : evJ C (.cons e r) acc env g = (evE C e env g).bind (kJ C env r acc) := by
  show ((evE C e env g).bind fun w g1 => match w with
    | .d (.str y) => if okS (acc ++ y) = true then evJ C r (acc ++ y) env g1 else .no
    | _ => .no) = _
  congr; funext w g1
  unfold kJ kJ1
  split
  · cases okS _ <;> rfl
  · rfl
@[simp] theorem kEnum_l (xs : List D) (g1 : Gs) : kEnum (.d (.list xs)) g1 = .ok (xs.mapIdx fun i y => .tuple [.int (i : Nat), y]) g1 := id rfl
@[simp] theorem evI_enum (a : Ex) : evI C (.enum a) env g = (evE C a env g).bind kEnum := id rfl

def nxO (g1 : Gs) : Option Env → OS
  | some env1 => .nx env1 g1
  | none => .no
@[simp] theorem nxO_some (g1 : Gs) (env1 : Env) : nxO g1 (some env1) = .nx env1 g1 := id rfl
def kSet (t : Tg) (w : W) (g1 : Gs) : OS := nxO g1 (bindT t w env)
@[simp] theorem kSet_eq (t : Tg) (w : W) (g1 : Gs) : kSet env t w g1 = nxO g1 (bindT t w env) := id rfl
@[simp] theorem evS_set (t : Tg) (e : Ex) : evS C (.set t e) env g = (evE C e env g).st env (kSet env t) := by
  show ((evE C e env g).st env fun w g1 => match bindT t w env with | some env1 => OS.nx env1 g1 | none => .no) = _
  congr
def kPar (is : List Nat) (ws : List W) (g1 : Gs) : OS := nxO g1 (setAll is ws env)
@[simp] theorem kPar_eq (is : List Nat) (ws : List W) (g1 : Gs) : kPar env is ws g1 = nxO g1 (setAll is ws env) := id rfl
@[simp] theorem evS_par (is : List Nat) (es : Exs) : evS C (.par is es) env g = (evEs C es env g).st env (kPar env is) := by
  show ((evEs C es env g).st env fun ws g1 => match setAll is ws env with | some env1 => OS.nx env1 g1 | none => .no) = _
  congr
def kSi4 (y : D) (x k : W) (g4 : Gs) : OS := match x, k with
    | .ref n, .d (.int j) => (match g4[n]? with
      | some (some (.lst xs)) => (match L2.ixN xs.length j with
        | some m => .nx env (g4.set n (some (.lst (xs.set m y))))
        | none => .no)
      | _ => .no)
    | _, _ => .no
theorem kSi4_eq {y : D} {n : Nat} {j : Int} {g4 : Gs} {xs : List D} {m : Nat} (h : g4[n]? = some (some (.lst xs))) (k : L2.ixN xs.length j = some m) : kSi4 env y (.ref n) (.d (.int j)) g4 = .nx env (g4.set n (some (.lst (xs.set m y)))) := by
  simp only [kSi4, h, k]
def kSi3 (i : Ex) (y : D) (x : W) (g3 : Gs) : OS := (evE C i env g3).st env (kSi4 env y x)
@[simp] theorem kSi3_eq (i : Ex) (y : D) (x : W) (g3 : Gs) : kSi3 C env i y x g3 = (evE C i env g3).st env (kSi4 env y x) := id rfl
def kSi2 (o i : Ex) (y : D) (g2 : Gs) : OS := (evE C o env g2).st env (kSi3 C env i y)
@[simp] theorem kSi2_eq (o i : Ex) (y : D) (g2 : Gs) : kSi2 C env o i y g2 = (evE C o env g2).st env (kSi3 C env i y) := id rfl
def kSi (o i : Ex) (w : W) (g1 : Gs) : OS := (give g1 w).st env (kSi2 C env o i)
@[simp] theorem kSi_eq (o i : Ex) (w : W) (g1 : Gs) : kSi C env o i w g1 = (give g1 w).st env (kSi2 C env o i) := id rfl
@[simp] theorem evS_setix (o i e : Ex) : evS C (.setix o i e) env g = (evE C e env g).st env (kSi C env o i) := id rfl
def kAug (i : Nat) (o : BO) (x y : W) (g1 : Gs) : OS := match x, y with
      | .d (.int a), .d (.int b) => (match o with
        | .add => .nx (env.set i (some (.d (.int (a + b))))) g1
        | .sub => .nx (env.set i (some (.d (.int (a - b))))) g1
        | _ => .no)
      | _, _ => .no
@[simp] theorem kAug_add (i : Nat) (a b : Int) (g1 : Gs) : kAug env i .add (.d (.int a)) (.d (.int b)) g1 = .nx (env.set i (some (.d (.int (a + b))))) g1 := id rfl
@[simp] theorem kAug_sub (i : Nat) (a b : Int) (g1 : Gs) : kAug env i .sub (.d (.int a)) (.d (.int b)) g1 = .nx (env.set i (some (.d (.int (a - b))))) g1 := id rfl
def kAug0 (i : Nat) (o : BO) (e : Ex) (x : W) (g : Gs) : OS := (evE C e env g).st env (kAug env i o x)
@[simp] theorem kAug0_eq (i : Nat) (o : BO) (e : Ex) (x : W) (g : Gs) : kAug0 C env i o e x g = (evE C e env g).st env (kAug env i o x) := id rfl
@[simp] theorem evS_aug (i : Nat) (o : BO) (e : Ex) : evS C (.aug i o e) env g = (getV env i g).st env (kAug0 C env i o e) := by
  show (match env[i]? with
    | some (some x) => (evE C e env g).st env fun y g1 => (match x, y with
      | .d (.int a), .d (.int b) => (match o with
        | .add => .nx (env.set i (some (.d (.int (a + b))))) g1
        | .sub => .nx (env.set i (some (.d (.int (a - b))))) g1
        | _ => .no)
      | _, _ => .no)
    | _ => .no) = _
  unfold getV
  split <;> rfl
def kExt (i : Nat) (n : Nat) (y : W) (g1 : Gs) : OS := match y, g1[n]? with
      | .d (.list ys), some (some (.lst xs)) => if xs.length + ys.length ≤ 16777216 then .nx env (g1.set n (some (.lst (xs ++ ys)))) else .no
      | _, _ => .no
theorem kExt_eq {i n : Nat} {ys xs : List D} {g1 : Gs} (h : g1[n]? = some (some (.lst xs))) : kExt env i n (.d (.list ys)) g1 = if xs.length + ys.length ≤ 16777216 then .nx env (g1.set n (some (.lst (xs ++ ys)))) else .no := by
  simp only [kExt, h]
def kExt0 (i : Nat) (e : Ex) (x : W) (g : Gs) : OS := match x with
  | .ref n => (evE C e env g).st env (kExt env i n)
  | _ => .no
@[simp] theorem kExt0_eq (i : Nat) (e : Ex) (n : Nat) (g : Gs) : kExt0 C env i e (.ref n) g = (evE C e env g).st env (kExt env i n) := id rfl
@[simp] theorem evS_ext (i : Nat) (e : Ex) : evS C (.ext i e) env g = (getV env i g).st env (kExt0 C env i e) := by
  show (match env[i]? with
    | some (some (.ref n)) => (evE C e env g).st env fun y g1 => (match y, g1[n]? with
      | .d (.list ys), some (some (.lst xs)) => if decide (xs.length + ys.length ≤ sizeLine) = true then .nx env (g1.set n (some (.lst (xs ++ ys)))) else .no
      | _, _ => .no)
    | _ => .no) = _
  unfold getV kExt0 kExt
  simp only [← ite_line]
  cases env[i]? with
  | none => rfl
  | some o => cases o with
    | none => rfl
    | some w => cases w <;> rfl
def kEx (w : W) (g1 : Gs) : OS := .nx env g1
@[simp] theorem kEx_eq (w : W) (g1 : Gs) : kEx env w g1 = .nx env g1 := id rfl
@[simp] theorem evS_ex (e : Ex) : evS C (.ex e) env g = (evE C e env g).st env (kEx env) := id rfl
def kApp3 (n : Nat) (y : D) (g3 : Gs) : OS := match g3[n]? with
      | some (some (.lst xs)) => if xs.length < 16777216 then .nx env (g3.set n (some (.lst (xs ++ [y])))) else .no
      | _ => .no
theorem kApp3_eq {n : Nat} {y : D} {g3 : Gs} {xs : List D} (h : g3[n]? = some (some (.lst xs))) : kApp3 env n y g3 = if xs.length < 16777216 then .nx env (g3.set n (some (.lst (xs ++ [y])))) else .no := by
  simp only [kApp3, h]
def kApp2 (n : Nat) (w : W) (g2 : Gs) : OS := (give g2 w).st env (kApp3 env n)
@[simp] theorem kApp2_eq (n : Nat) (w : W) (g2 : Gs) : kApp2 env n w g2 = (give g2 w).st env (kApp3 env n) := id rfl
def kApp (e : Ex) (x : W) (g1 : Gs) : OS := match x, peek g1 x with
    | .ref n, some (.list _) => (evE C e env g1).st env (kApp2 env n)
    | _, _ => .no
theorem kApp_eq {e : Ex} {n : Nat} {g1 : Gs} {xs : List D} (h : g1[n]? = some (some (.lst xs))) : kApp C env e (.ref n) g1 = (evE C e env g1).st env (kApp2 env n) := by
  have : peek g1 (.ref n) = some (.list xs) := by simp only [peek, h]
  simp only [kApp, this]
@[simp] theorem evS_app (o e : Ex) : evS C (.app o e) env g = (evE C o env g).st env (kApp C env e) := by
  show ((evE C o env g).st env fun x g1 => match x, peek g1 x with
    | .ref n, some (.list _) => (evE C e env g1).st env fun w g2 => (give g2 w).st env fun y g3 => (match g3[n]? with
      | some (some (.lst xs)) => if decide (xs.length < sizeLine) = true then .nx env (g3.set n (some (.lst (xs ++ [y])))) else .no
      | _ => .no)
    | _, _ => .no) = _
  unfold kApp kApp2 kApp3
  simp only [← ite_line']
def kIf (a b : Sts) (t : Bool) (g1 : Gs) : OS := if t = true then evSs C a env g1 else evSs C b env g1
@[simp] theorem kIf_t (a b : Sts) (g1 : Gs) : kIf C env a b true g1 = evSs C a env g1 := id rfl
@[simp] theorem kIf_f (a b : Sts) (g1 : Gs) : kIf C env a b false g1 = evSs C b env g1 := id rfl
theorem kIf_eq (a b : Sts) (t : Bool) (g1 : Gs) : kIf C env a b t g1 = if t = true then evSs C a env g1 else evSs C b env g1 := rfl
@[simp] theorem kIf_d (a b : Sts) (p : Prop) [Decidable p] (g1 : Gs) : kIf C env a b (decide p) g1 = if p then evSs C a env g1 else evSs C b env g1 := by unfold kIf; split <;> rename_i h <;> simp at h <;> simp [h]
@[simp] theorem evS_ite (c : Ex) (a b : Sts) : evS C (.ite c a b) env g = (evT C c env g).st env (kIf C env a b) := id rfl
def forRun (t : Tg) (b : Sts) (xs : List D) (env : Env) (g1 : Gs) : OS := forGo (fun x env => bindT t (.d x) env) (fun env g => evSs C b env g) xs env g1
def nxS (b : Sts) (g : Gs) : Option Env → OS
  | some env => evSs C b env g
  | none => .no
@[simp] theorem nxS_some (b : Sts) (g : Gs) (env : Env) : nxS C b g (some env) = evSs C b env g := id rfl
@[simp] theorem forRun_nil (t : Tg) (b : Sts) (env : Env) (g1 : Gs) : forRun C t b [] env g1 = .nx env g1 := id rfl
@[simp] theorem forRun_cons (t : Tg) (b : Sts) (x : D) (xs : List D) (env : Env) (g1 : Gs) : forRun C t b (x :: xs) env g1 = (nxS C b g1 (bindT t (.d x) env)).seq (forRun C t b xs) := by
  show (match bindT t (.d x) env with | none => OS.no | some env1 => _) = _
  cases bindT t (.d x) env <;> rfl
def kFor (t : Tg) (b : Sts) (xs : List D) (g1 : Gs) : OS := forRun C t b xs env g1
@[simp] theorem kFor_eq (t : Tg) (b : Sts) (xs : List D) (g1 : Gs) : kFor C env t b xs g1 = forRun C t b xs env g1 := id rfl
@[simp] theorem evS_for (t : Tg) (it : Itx) (b : Sts) : evS C (.for_ t it b) env g = (evI C it env g).st env (kFor C env t b) := id rfl
def whlRun (c : Ex) (b : Sts) (n : Nat) (env : Env) (g : Gs) : OS := whlGo (fun env g => evT C c env g) (fun env g => evSs C b env g) n env g
def kWhl (c : Ex) (b : Sts) (n : Nat) (t : Bool) (g1 : Gs) : OS := if t = true then (evSs C b env g1).seq (whlRun C c b n) else .nx env g1
@[simp] theorem kWhl_t (c : Ex) (b : Sts) (n : Nat) (g1 : Gs) : kWhl C env c b n true g1 = (evSs C b env g1).seq (whlRun C c b n) := id rfl
@[simp] theorem kWhl_f (c : Ex) (b : Sts) (n : Nat) (g1 : Gs) : kWhl C env c b n false g1 = .nx env g1 := id rfl
theorem whlRun_succ (c : Ex) (b : Sts) (n : Nat) : whlRun C c b (n + 1) env g = (evT C c env g).st env (kWhl C env c b n) := rfl
@[simp] theorem evS_whl (c : Ex) (b : Sts) : evS C (.whl c b) env g = whlRun C c b turns env g := id rfl
def kRet (w : W) (g1 : Gs) : OS := .rt w g1
@[simp] theorem kRet_eq (w : W) (g1 : Gs) : kRet w g1 = .rt w g1 := id rfl
@[simp] theorem evS_ret (e : Ex) : evS C (.ret e) env g = (evE C e env g).st env kRet := id rfl
@[simp] theorem evS_raise (c m : Str) : evS C (.raise c m) env g = .exc ⟨c, none⟩ env g := id rfl
@[simp] theorem evS_doc : evS C .doc env g = .nx env g := id rfl
def kFrzv (i : Nat) (x : W) (g : Gs) : OS := match x with
  | .ref n => (match g[n]? with
      | some (some (.lst xs)) => .nx (env.set i (some (.d (.list xs)))) (g.set n none)
      | _ => .no)
  | _ => .no
theorem kFrzv_eq {i n : Nat} {g : Gs} {xs : List D} (h : g[n]? = some (some (.lst xs))) : kFrzv env i (.ref n) g = .nx (env.set i (some (.d (.list xs)))) (g.set n none) := by
  simp only [kFrzv, h]
@[simp] theorem evS_frzv (i : Nat) : evS C (.frzv i) env g = (getV env i g).st env (kFrzv env i) := by
  show (match env[i]? with
    | some (some (.ref n)) => (match g[n]? with
      | some (some (.lst xs)) => OS.nx (env.set i (some (.d (.list xs)))) (g.set n none)
      | _ => OS.no)
    | _ => OS.no) = _
  unfold getV kFrzv
  cases env[i]? with
  | none => rfl
  | some o => cases o with
    | none => rfl
    | some w => cases w <;> rfl
@[simp] theorem evSs_nil : evSs C .nil env g = .nx env g := id rfl
@[simp] theorem evSs_cons (s : St) (r : Sts) : evSs C (.cons s r) env g = (evS C s env g).seq (evSs C r) := id rfl
/-- the list and the script -/
def kAdds (i : Nat) (x : W) (g1 : Gs) : Out W := match x, env[i]? with
    | .d (.list xs), some (some (.scr ns)) => if xs.length + ns.length ≤ 16777216 then newL g1 (xs ++ ns.map .int) else .no
    | _, _ => .no
theorem kAdds_eq {i : Nat} {xs : List D} {ns : List Int} {g1 : Gs} (h : env[i]? = some (some (.scr ns))) : kAdds env i (.d (.list xs)) g1 = if xs.length + ns.length ≤ 16777216 then newL g1 (xs ++ ns.map .int) else .no := by
  simp only [kAdds, h]
@[simp] theorem evE_adds (a : Ex) (i : Nat) : evE C (.adds a i) env g = (evE C a env g).bind (kAdds env i) := by
  show ((evE C a env g).bind fun x g1 => match x, env[i]? with
    | .d (.list xs), some (some (.scr ns)) => if decide (xs.length + ns.length ≤ sizeLine) = true then newL g1 (xs ++ ns.map .int) else .no
    | _, _ => .no) = _
  unfold kAdds
  simp only [← ite_line]
theorem evE_tryc (f : Nat) (es : Exs) : evE C (.tryc f es) env g = match evEs (fun i => C (i + 1000)) es env g with
    | .ok ws g1 => tryW g.length (C (f + 1000) ws g1)
    | _ => .no := id rfl
end

@[simp] theorem bindT_nm (i : Nat) (w : W) (env : Env) : bindT (.nm i) w env = if i < env.length then some (env.set i (some w)) else none := id rfl
@[simp] theorem bindT_tup (ts : Tgs) (xs : List D) (env : Env) : bindT (.tup ts) (.d (.tuple xs)) env = bindTs ts xs env := id rfl
@[simp] theorem bindTs_nil (env : Env) : bindTs .nil [] env = some env := id rfl
@[simp] theorem bindTs_cons (t : Tg) (r : Tgs) (x : D) (xs : List D) (env : Env) : bindTs (.cons t r) (x :: xs) env = (bindT t (.d x) env).bind fun env' => bindTs r xs env' := id rfl
@[simp] theorem setAll_nil (env : Env) : setAll [] [] env = some env := id rfl
@[simp] theorem setAll_cons (i : Nat) (is : List Nat) (w : W) (ws : List W) (env : Env) : setAll (i :: is) (w :: ws) env = if i < env.length then setAll is ws (env.set i (some w)) else none := id rfl
@[simp] theorem wipeE_nil (env : Env) : wipeE env [] = env := id rfl
@[simp] theorem wipeE_cons (env : Env) (v : Nat) (vs : List Nat) : wipeE env (v :: vs) = (wipeE env vs).set v none := id rfl
@[simp] theorem gives_nil (g : Gs) : gives g [] = .ok [] g := id rfl
@[simp] theorem gives_cons (g : Gs) (w : W) (r : List W) : gives g (w :: r) = (give g w).bind fun x g1 => (gives g1 r).bind fun xs g2 => .ok (x :: xs) g2 := id rfl
@[simp] theorem peeks_nil (g : Gs) : peeks g [] = some [] := id rfl
@[simp] theorem peeks_cons (g : Gs) (w : W) (r : List W) : peeks g (w :: r) = (peek g w).bind fun x => (peeks g r).map (x :: ·) := id rfl
theorem forGo_nil (bnd : D → Env → Option Env) (body : Env → Gs → OS) (env : Env) (g : Gs) : forGo bnd body [] env g = .nx env g := rfl
theorem forGo_cons (bnd : D → Env → Option Env) (body : Env → Gs → OS) (x : D) (xs : List D) (env : Env) (g : Gs) : forGo bnd body (x :: xs) env g = match bnd x env with
    | none => .no
    | some env1 => (body env1 g).seq fun env2 g2 => forGo bnd body xs env2 g2 := rfl
@[simp] theorem noExc_ok {α : Type} (a : α) (g : Gs) : noExc (.ok a g) = .ok a g := id rfl

/-! places -/
@[simp] theorem atI_nat {α : Type} (xs : List α) (n : Nat) : L2.atI xs (n : Int) = xs[n]? := by
  unfold L2.atI L2.ixN
  rw [if_pos (by omega)]
  by_cases h : n < xs.length
  · rw [if_pos (by omega)]; simp
  · rw [if_neg (by omega)]; simp; omega
@[simp] theorem atI_0 {α : Type} (xs : List α) : L2.atI xs 0 = xs[0]? := atI_nat xs 0
@[simp] theorem atI_1 {α : Type} (xs : List α) : L2.atI xs 1 = xs[1]? := atI_nat xs 1
@[simp] theorem atI_2 {α : Type} (xs : List α) : L2.atI xs 2 = xs[2]? := atI_nat xs 2
@[simp] theorem atI_3 {α : Type} (xs : List α) : L2.atI xs 3 = xs[3]? := atI_nat xs 3
@[simp] theorem atI_4 {α : Type} (xs : List α) : L2.atI xs 4 = xs[4]? := atI_nat xs 4
@[simp] theorem atI_5 {α : Type} (xs : List α) : L2.atI xs 5 = xs[5]? := atI_nat xs 5
@[simp] theorem idxD_tup (xs : List D) (i : Int) : idxD (.tuple xs) (.int i) = L2.atI xs i := id rfl
@[simp] theorem idxD_lst (xs : List D) (i : Int) : idxD (.list xs) (.int i) = L2.atI xs i := id rfl
theorem freezeAt_new' {n : Nat} {g : Gs} (h : n = g.length) (xs : List D) : freezeAt n (g ++ [some (.lst xs)]) (.ref g.length) = .ok (.d (.list xs)) g := by
  subst h
  simp [freezeAt]
@[simp] theorem freezeAt_d (n : Nat) (g : Gs) (x : D) : freezeAt n g (.d x) = .ok (.d x) (g.take n) := id rfl
@[simp] theorem newL_eq (g : Gs) (xs : List D) : newL g xs = .ok (.ref g.length) (g ++ [some (.lst xs)]) := id rfl
theorem freezeAt_new (g : Gs) (xs : List D) : freezeAt g.length (g ++ [some (.lst xs)]) (.ref g.length) = .ok (.d (.list xs)) g := freezeAt_new' rfl xs
theorem freezeAt_set (g : Gs) (n : Nat) (o : Option Ob) (xs : List D) : freezeAt g.length (g.set n o ++ [some (.lst xs)]) (.ref g.length) = .ok (.d (.list xs)) (g.set n o) := by
  have := freezeAt_new' (n := g.length) (g := g.set n o) (by simp) xs
  simpa using this
@[simp] theorem endF_nx (b : Bool) (n : Nat) (env : Env) (g : Gs) : endF b n (.nx env g) = .ok (.d .none) (g.take n) := id rfl
@[simp] theorem endF_exc (b : Bool) (n : Nat) (e : Exn) (env : Env) (g : Gs) : endF b n (.exc e env g) = .exc e (g.take n) := id rfl
@[simp] theorem endF_d (n : Nat) (x : D) (g : Gs) : endF false n (.rt (.d x) g) = .ok (.d x) (g.take n) := id rfl

def freezeR (n : Nat) (g : Gs) : Option (Option Ob) → Out W
  | some (some (.lst xs)) => .ok (.d (.list xs)) (g.take n)
  | _ => .no
@[simp] theorem freezeR_some (n : Nat) (g : Gs) (xs : List D) : freezeR n g (some (some (.lst xs))) = .ok (.d (.list xs)) (g.take n) := id rfl
@[simp] theorem freezeAt_R (n m : Nat) (g : Gs) : freezeAt n g (.ref m) = if n ≤ m then freezeR n g g[m]? else .no := by
  unfold freezeAt freezeR
  split <;> rename_i h
  all_goals simp_all
  all_goals rfl
@[simp] theorem endF_R (n m : Nat) (g : Gs) : endF false n (.rt (.ref m) g) = if m < n then .ok (.ref m) (g.take n) else freezeAt n g (.ref m) := id rfl
theorem take_junk (g g' : Gs) (h : g'.length = g.length) (j : Gs) : (g' ++ j).take g.length = g' := by
  rw [← h]; simp
@[simp] theorem take_set (g : Gs) (n : Nat) (o : Option Ob) (j : Gs) : (g.set n o ++ j).take g.length = g.set n o := take_junk g _ (by simp) j
/-! operators -/
theorem le_line {n : Nat} (h : n ≤ 16777216) : n ≤ sizeLine := h
@[simp] theorem binW_add (g : Gs) (a b : Int) : binW .add g (.int a) (.int b) = .ok (.d (.int (a + b))) g := id rfl
@[simp] theorem binW_sub (g : Gs) (a b : Int) : binW .sub g (.int a) (.int b) = .ok (.d (.int (a - b))) g := id rfl
theorem binW_mul {g : Gs} {a b : Int} (h : mulOk a b = true) : binW .mul g (.int a) (.int b) = .ok (.d (.int (a * b))) g := by
  simp [binW, binD, h]
theorem binW_fdiv {g : Gs} {a b : Int} (h : divOk b = true) : binW .fdiv g (.int a) (.int b) = .ok (.d (.int (a / b))) g := by
  simp [binW, binD, h]
theorem binW_mod {g : Gs} {a b : Int} (h : 0 < b) : binW .mod g (.int a) (.int b) = .ok (.d (.int (a % b))) g := by
  simp [binW, binD, h]
@[simp] theorem binW_tup (g : Gs) (xs ys : List D) : binW .add g (.tuple xs) (.tuple ys) = if xs.length + ys.length ≤ 16777216 then .ok (.d (.tuple (xs ++ ys))) g else .no := by
  by_cases h : xs.length + ys.length ≤ 16777216
  · have : catOk xs ys = true := decide_eq_true h
    simp [binW, binD, this, h]
  · have : catOk xs ys = false := decide_eq_false h
    simp [binW, binD, this, h]
@[simp] theorem binW_lst (g : Gs) (xs ys : List D) : binW .add g (.list xs) (.list ys) = if xs.length + ys.length ≤ 16777216 then newL g (xs ++ ys) else .no := by
  by_cases h : xs.length + ys.length ≤ 16777216
  · have : catOk xs ys = true := decide_eq_true h
    simp [binW, binD, this, h]
  · have : catOk xs ys = false := decide_eq_false h
    simp [binW, binD, this, h]
@[simp] theorem cmpD_eq (x y : D) : cmpD .eq x y = if depthOk x y = true then some (PyData.eqv x y) else none := id rfl
@[simp] theorem cmpD_ne (x y : D) : cmpD .ne x y = if depthOk x y = true then some (!PyData.eqv x y) else none := id rfl
@[simp] theorem cmpD_lt (a b : Int) : cmpD .lt (.int a) (.int b) = some (decide (a < b)) := id rfl
@[simp] theorem cmpD_le (a b : Int) : cmpD .le (.int a) (.int b) = some (decide (a ≤ b)) := id rfl
@[simp] theorem cmpD_gt (a b : Int) : cmpD .gt (.int a) (.int b) = some (decide (b < a)) := id rfl
@[simp] theorem cmpD_ge (a b : Int) : cmpD .ge (.int a) (.int b) = some (decide (b ≤ a)) := id rfl
@[simp] theorem cmpD_in_tup (x : D) (ys : List D) : cmpD .isin x (.tuple ys) = if x.depth ≤ 64 then some (ys.any fun y => PyData.eqv y x) else none := by
  show inAll x ys = _
  simp [inAll]
@[simp] theorem cmpD_in_lst (x : D) (ys : List D) : cmpD .isin x (.list ys) = if x.depth ≤ 64 then some (ys.any fun y => PyData.eqv y x) else none := by
  show inAll x ys = _
  simp [inAll]
@[simp] theorem cmpD_notin_tup (x : D) (ys : List D) : cmpD .notin x (.tuple ys) = if x.depth ≤ 64 then some (!(ys.any fun y => PyData.eqv y x)) else none := by
  show (inAll x ys).map _ = _
  simp only [inAll, decide_eq_true_eq]; split <;> rfl
@[simp] theorem cmpD_notin_lst (x : D) (ys : List D) : cmpD .notin x (.list ys) = if x.depth ≤ 64 then some (!(ys.any fun y => PyData.eqv y x)) else none := by
  show (inAll x ys).map _ = _
  simp only [inAll, decide_eq_true_eq]; split <;> rfl
@[simp] theorem depthOk_int (i : Int) (y : D) : depthOk (.int i) y = true := by simp [depthOk, PyData.depth]
@[simp] theorem depthOk_str (i : Str) (y : D) : depthOk (.str i) y = true := by simp [depthOk, PyData.depth]
@[simp] theorem depthOk_bool (i : Bool) (y : D) : depthOk (.bool i) y = true := by simp [depthOk, PyData.depth]
@[simp] theorem depthOk_none (y : D) : depthOk .none y = true := by simp [depthOk, PyData.depth]
@[simp] theorem depthOk_int' (i : Int) (y : D) : depthOk y (.int i) = true := by simp [depthOk, PyData.depth]
@[simp] theorem depthOk_str' (i : Str) (y : D) : depthOk y (.str i) = true := by simp [depthOk, PyData.depth]
theorem depthOk_r {x y : D} (h : y.depth ≤ 64) : depthOk x y = true := by simp only [depthOk, decide_eq_true_eq]; omega
theorem depthOk_l {x y : D} (h : x.depth ≤ 64) : depthOk x y = true := by simp only [depthOk, decide_eq_true_eq]; omega
@[simp] theorem eqv_int (a b : Int) : PyData.eqv (.int a) (.int b) = decide (a = b) := by simp [PyData.eqv, BEq.beq]
@[simp] theorem eqv_bool (a b : Bool) : PyData.eqv (.bool a) (.bool b) = decide (a = b) := by cases a <;> cases b <;> rfl
@[simp] theorem eqv_str (a b : Str) : PyData.eqv (.str a) (.str b) = decide (a = b) := by
  show (a == b) = _
  by_cases h : a = b <;> simp [h]
@[simp] theorem eqv_tup (a b : List D) : PyData.eqv (.tuple a) (.tuple b) = PyData.eqvAll a b := id rfl
@[simp] theorem eqv_lst (a b : List D) : PyData.eqv (.list a) (.list b) = PyData.eqvAll a b := id rfl
@[simp] theorem eqvAll_nil : PyData.eqvAll [] [] = true := id rfl
@[simp] theorem eqvAll_cons (x y : D) (xs ys : List D) : PyData.eqvAll (x :: xs) (y :: ys) = (PyData.eqv x y && PyData.eqvAll xs ys) := id rfl
@[simp] theorem eqvAll_nc (y : D) (ys : List D) : PyData.eqvAll [] (y :: ys) = false := id rfl
@[simp] theorem eqvAll_cn (y : D) (ys : List D) : PyData.eqvAll (y :: ys) [] = false := id rfl

/-! loops -/
theorem lcGo_pure {bnd : D → Option Env} {test : Env → Gs → Out Bool} {elt : Env → Gs → Out W} (p : D → Bool) (f : D → D) (g : Gs) :
    ∀ (xs : List D) (acc : List D), (∀ x ∈ xs, ∃ env, bnd x = some env ∧ test env g = .ok (p x) g ∧ (p x = true → elt env g = .ok (.d (f x)) g)) →
    lcGo bnd test elt xs acc g = .ok (acc ++ (xs.filter p).map f) g
  | [], acc, _ => by simp [lcGo]
  | x :: xs, acc, h => by
    obtain ⟨env, h1, h2, h3⟩ := h x List.mem_cons_self
    have ih := fun acc => lcGo_pure p f g xs acc fun y hy => h y (List.mem_cons_of_mem _ hy)
    unfold lcGo
    rw [h1]
    simp only [h2, Out.bind_ok]
    by_cases hp : p x = true
    · rw [if_pos hp, h3 hp]
      simp [give_d, ih, List.filter_cons_of_pos hp]
    · rw [if_neg hp, ih, List.filter_cons_of_neg hp]
/-- without a test -/
theorem lcGo_map {bnd : D → Option Env} {elt : Env → Gs → Out W} (f : D → D) (g : Gs)
    (xs : List D) (h : ∀ x ∈ xs, ∃ env, bnd x = some env ∧ elt env g = .ok (.d (f x)) g) :
    lcGo bnd (fun _ g => .ok true g) elt xs [] g = .ok (xs.map f) g := by
  have := lcGo_pure (bnd := bnd) (test := fun _ g => .ok true g) (elt := elt) (fun _ => true) f g xs [] fun x hx => by
    obtain ⟨env, h1, h2⟩ := h x hx
    exact ⟨env, h1, rfl, fun _ => h2⟩
  rw [this, List.filter_eq_self.mpr fun _ _ => rfl]
  rfl
section
variable {C : Nat → List W → Gs → Out W} {env : Env} {own : List Nat} {tg : Tg} {elt : Ex}
theorem lc_map (f : D → D) {g : Gs} {xs : List D} (h : ∀ x ∈ xs, ∃ env', bindT tg (.d x) (wipeE env own) = some env' ∧ evE C elt env' g = .ok (.d (f x)) g) :
    lcRun C env own tg .none elt xs g = .ok (xs.map f) g := by
  unfold lcRun
  have := lcGo_map f g xs h
  exact congrArg noExc this
theorem lc_filter {t : Ex} (p : D → Bool) (f : D → D) {g : Gs} {xs : List D} (h : ∀ x ∈ xs, ∃ env', bindT tg (.d x) (wipeE env own) = some env' ∧ evT C t env' g = .ok (p x) g ∧ (p x = true → evE C elt env' g = .ok (.d (f x)) g)) :
    lcRun C env own tg (.some t) elt xs g = .ok ((xs.filter p).map f) g := by
  have := lcGo_pure (test := fun env g => evTo C (.some t) env g) (elt := fun env g => evE C elt env g) p f g xs [] h
  unfold lcRun
  rw [this]
  rfl
end
/-- the heap with objects that nobody asks for any more -/
def Jk (g g' : Gs) : Prop := ∃ j, g' = g ++ j
theorem Jk.rfl' (g : Gs) : Jk g g := ⟨[], by simp⟩
theorem Jk.app {g g' : Gs} (h : Jk g g') (x : Gs) : Jk g (g' ++ x) := by
  obtain ⟨j, rfl⟩ := h
  exact ⟨j ++ x, by simp⟩
theorem Jk.take {g g' : Gs} (h : Jk g g') : g'.take g.length = g := by
  obtain ⟨j, rfl⟩ := h
  simp
theorem Jk.trans {g g' g'' : Gs} (h : Jk g g') (k : Jk g' g'') : Jk g g'' := by
  obtain ⟨j, rfl⟩ := k
  exact h.app j
theorem Jk.get {g g' : Gs} (h : Jk g g') {n : Nat} {o : Option Ob} (e : g[n]? = some o) : g'[n]? = some o := by
  obtain ⟨j, rfl⟩ := h
  rw [List.getElem?_append_left (List.getElem?_eq_some_iff.mp e).1]; exact e
section
variable {C : Nat → List W → Gs → Out W} {t : Tg} {b : Sts}
/-- a loop that looks for something bad, and returns w at it -/
theorem for_search {xs : List D} (p : D → Bool) (I : Env → Gs → Prop) (J : Gs → Prop) (w : W)
    (h : ∀ x ∈ xs, ∀ env g, I env g → ∃ env1, bindT t (.d x) env = some env1 ∧ (p x = true → ∃ env2 g2, evSs C b env1 g = .nx env2 g2 ∧ I env2 g2) ∧ (p x = false → ∃ g2, evSs C b env1 g = .rt w g2 ∧ J g2)) :
    ∀ env g, I env g → (xs.all p = true → ∃ env' g', forRun C t b xs env g = .nx env' g' ∧ I env' g') ∧ (xs.all p = false → ∃ g', forRun C t b xs env g = .rt w g' ∧ J g') := by
  induction xs with
  | nil => exact fun env g i => ⟨fun _ => ⟨env, g, rfl, i⟩, fun z => by simp at z⟩
  | cons x xs ih =>
    intro env g i
    obtain ⟨env1, h1, h2, h3⟩ := h x List.mem_cons_self env g i
    have ih := ih fun y hy => h y (List.mem_cons_of_mem _ hy)
    simp only [forRun_cons, h1, nxS_some, List.all_cons]
    cases hp : p x with
    | true =>
      obtain ⟨env2, g2, e2, i2⟩ := h2 hp
      rw [e2, Bool.true_and]
      exact ih env2 g2 i2
    | false =>
      obtain ⟨g2, e2, j2⟩ := h3 hp
      rw [e2, Bool.false_and]
      exact ⟨fun z => (Bool.noConfusion z), fun _ => ⟨g2, rfl, j2⟩⟩
/-- a loop that goes through -/
theorem for_inv {xs : List D} (I : List D → Env → Gs → Prop)
    (h : ∀ pre x post, xs = pre ++ x :: post → ∀ env g, I pre env g → ∃ env1 env2 g2, bindT t (.d x) env = some env1 ∧ evSs C b env1 g = .nx env2 g2 ∧ I (pre ++ [x]) env2 g2) {env : Env} {g : Gs} (i : I [] env g) :
    ∃ env' g', forRun C t b xs env g = .nx env' g' ∧ I xs env' g' := by
  suffices k : ∀ (post pre : List D), xs = pre ++ post → ∀ env g, I pre env g → ∃ env' g', forRun C t b post env g = .nx env' g' ∧ I xs env' g' from k xs [] rfl env g i
  intro post
  induction post with
  | nil =>
    intro pre e env g i
    rw [List.append_nil] at e
    subst e
    exact ⟨env, g, rfl, i⟩
  | cons x post ih =>
    intro pre e env g i
    obtain ⟨env1, env2, g2, h1, h2, h3⟩ := h pre x post e env g i
    simp only [forRun_cons, h1, nxS_some, h2, OS.seq_nx]
    exact ih (pre ++ [x]) (by simp [e]) env2 g2 h3
/-- a loop that folds -/
theorem for_fold {xs : List D} {σ : Type} (f : σ → D → σ) (I : σ → Env → Gs → Prop)
    (h : ∀ x ∈ xs, ∀ s env g, I s env g → ∃ env1 env2 g2, bindT t (.d x) env = some env1 ∧ evSs C b env1 g = .nx env2 g2 ∧ I (f s x) env2 g2) :
    ∀ {s : σ} {env : Env} {g : Gs}, I s env g → ∃ env' g', forRun C t b xs env g = .nx env' g' ∧ I (xs.foldl f s) env' g' := by
  induction xs with
  | nil => exact fun i => ⟨_, _, rfl, i⟩
  | cons x xs ih =>
    intro s env g i
    obtain ⟨env1, env2, g2, h1, h2, h3⟩ := h x List.mem_cons_self s env g i
    simp only [forRun_cons, h1, nxS_some, h2, OS.seq_nx, List.foldl_cons]
    exact ih (fun y hy => h y (List.mem_cons_of_mem _ hy)) h3
theorem whl_aux {c : Ex} (I : Env → Gs → Prop) (m : Env → Nat)
    (h : ∀ env g, I env g → ∃ r g1, evT C c env g = .ok r g1 ∧ (r = true → ∃ env2 g2, evSs C b env g1 = .nx env2 g2 ∧ I env2 g2 ∧ m env2 < m env) ∧ (r = false → I env g1)) :
    ∀ (n : Nat) env g, I env g → m env < n → ∃ env' g' g'', whlRun C c b n env g = .nx env' g'' ∧ I env' g' ∧ evT C c env' g' = .ok false g'' ∧ I env' g'' := by
  intro n
  induction n with
  | zero => intro env g _ k; omega
  | succ n ih =>
    intro env g i k
    obtain ⟨r, g1, h1, h2, h3⟩ := h env g i
    simp only [whlRun_succ, h1, Out.st_ok]
    cases r with
    | false => exact ⟨env, g, g1, rfl, i, h1, h3 rfl⟩
    | true =>
      obtain ⟨env2, g2, e2, i2, k2⟩ := h2 rfl
      simp only [kWhl_t, e2, OS.seq_nx]
      exact ih env2 g2 i2 (by omega)
/-- a while by an invariant and a measure -/
theorem whl_inv {c : Ex} (I : Env → Gs → Prop) (m : Env → Nat)
    (h : ∀ env g, I env g → ∃ r g1, evT C c env g = .ok r g1 ∧ (r = true → ∃ env2 g2, evSs C b env g1 = .nx env2 g2 ∧ I env2 g2 ∧ m env2 < m env) ∧ (r = false → I env g1))
    {env : Env} {g : Gs} (i : I env g) (k : m env < turns) : ∃ env' g' g'', whlRun C c b turns env g = .nx env' g'' ∧ I env' g' ∧ evT C c env' g' = .ok false g'' ∧ I env' g'' :=
  whl_aux I m h turns env g i k
variable {env : Env} {own : List Nat} {tg : Tg} {elt : Ex}
/-- a comprehension that draws -/
theorem lc_inv {xs : List D} (I : List D → List D → Gs → Prop)
    (h : ∀ pre x post ys g, xs = pre ++ x :: post → I pre ys g → ∃ env' y g2, bindT tg (.d x) (wipeE env own) = some env' ∧ evE C elt env' g = .ok (.d y) g2 ∧ I (pre ++ [x]) (ys ++ [y]) g2) {g : Gs} (i : I [] [] g) :
    ∃ ys g', lcRun C env own tg .none elt xs g = .ok ys g' ∧ I xs ys g' := by
  suffices k : ∀ (post pre ys : List D), xs = pre ++ post → ∀ g, I pre ys g → ∃ zs g', lcGo (fun x => bindT tg (.d x) (wipeE env own)) (fun env g => evTo C .none env g) (fun env g => evE C elt env g) post ys g = .ok zs g' ∧ I xs zs g' by
    obtain ⟨zs, g', e, k⟩ := k xs [] [] rfl g i
    exact ⟨zs, g', by unfold lcRun; rw [e]; rfl, k⟩
  intro post
  induction post with
  | nil =>
    intro pre ys e g i
    rw [List.append_nil] at e
    subst e
    exact ⟨ys, g, rfl, i⟩
  | cons x post ih =>
    intro pre ys e g i
    obtain ⟨env', y, g2, h1, h2, h3⟩ := h pre x post ys g e i
    unfold lcGo
    simp only [h1, evTo_none, Out.bind_ok, if_true, h2, give_d]
    exact ih (pre ++ [x]) (ys ++ [y]) (by simp [e]) g2 h3
end
section
variable {C : Nat → List W → Gs → Out W} {t : Tg} {b : Sts} {env : Env} {g : Gs} {r : OS}
theorem search_r {xs : List D} (hr : forRun C t b xs env g = r) (p : D → Bool) (I : Env → Gs → Prop) (J : Gs → Prop) (w : W) (i : I env g)
    (h : ∀ x ∈ xs, ∀ env g, I env g → ∃ env1, bindT t (.d x) env = some env1 ∧ (p x = true → ∃ env2 g2, evSs C b env1 g = .nx env2 g2 ∧ I env2 g2) ∧ (p x = false → ∃ g2, evSs C b env1 g = .rt w g2 ∧ J g2)) :
    (xs.all p = true ∧ ∃ env' g', r = .nx env' g' ∧ I env' g') ∨ (xs.all p = false ∧ ∃ g', r = .rt w g' ∧ J g') := by
  have k := for_search p I J w h env g i
  rw [hr] at k
  cases e : xs.all p with
  | true => exact .inl ⟨rfl, k.1 e⟩
  | false => exact .inr ⟨rfl, k.2 e⟩
theorem inv_r {xs : List D} (hr : forRun C t b xs env g = r) (I : List D → Env → Gs → Prop) (i : I [] env g)
    (h : ∀ pre x post, xs = pre ++ x :: post → ∀ env g, I pre env g → ∃ env1 env2 g2, bindT t (.d x) env = some env1 ∧ evSs C b env1 g = .nx env2 g2 ∧ I (pre ++ [x]) env2 g2) :
    ∃ env' g', r = .nx env' g' ∧ I xs env' g' := by
  have := for_inv I h i
  rwa [hr] at this
theorem fold_r {xs : List D} (hr : forRun C t b xs env g = r) {σ : Type} (f : σ → D → σ) (I : σ → Env → Gs → Prop) {s : σ} (i : I s env g)
    (h : ∀ x ∈ xs, ∀ s env g, I s env g → ∃ env1 env2 g2, bindT t (.d x) env = some env1 ∧ evSs C b env1 g = .nx env2 g2 ∧ I (f s x) env2 g2) :
    ∃ env' g', r = .nx env' g' ∧ I (xs.foldl f s) env' g' := by
  have := for_fold f I h i
  rwa [hr] at this
theorem whl_r {c : Ex} (hr : whlRun C c b turns env g = r) (I : Env → Gs → Prop) (m : Env → Nat) (i : I env g) (k : m env < turns)
    (h : ∀ env g, I env g → ∃ r g1, evT C c env g = .ok r g1 ∧ (r = true → ∃ env2 g2, evSs C b env g1 = .nx env2 g2 ∧ I env2 g2 ∧ m env2 < m env) ∧ (r = false → I env g1)) :
    ∃ env' g' g'', r = .nx env' g'' ∧ I env' g' ∧ evT C c env' g' = .ok false g'' ∧ I env' g'' := by
  have := whl_inv I m h i k
  rwa [hr] at this
theorem lc_r {own : List Nat} {tg : Tg} {elt : Ex} {xs : List D} {o : Out (List D)} (hr : lcRun C env own tg .none elt xs g = o) (I : List D → List D → Gs → Prop) (i : I [] [] g)
    (h : ∀ pre x post ys g, xs = pre ++ x :: post → I pre ys g → ∃ env' y g2, bindT tg (.d x) (wipeE env own) = some env' ∧ evE C elt env' g = .ok (.d y) g2 ∧ I (pre ++ [x]) (ys ++ [y]) g2) :
    ∃ ys g', o = .ok ys g' ∧ I xs ys g' := by
  have := lc_inv I h i
  rwa [hr] at this
end
@[simp] theorem boolsD_map {α : Type} (f : α → Bool) : ∀ xs : List α, boolsD (xs.map fun x => .bool (f x)) = some (xs.map f)
  | [] => rfl
  | x :: xs => by simp [boolsD, boolsD_map f xs]
@[simp] theorem biW_len_tup (g : Gs) (xs : List D) : biW .len g [.tuple xs] = .ok (.d (.int xs.length)) g := id rfl
@[simp] theorem biW_len_lst (g : Gs) (xs : List D) : biW .len g [.list xs] = .ok (.d (.int xs.length)) g := id rfl
@[simp] theorem biW_int_b (g : Gs) (b : Bool) : biW .int g [.bool b] = .ok (.d (.int (if b then 1 else 0))) g := id rfl
@[simp] theorem biW_int_i (g : Gs) (i : Int) : biW .int g [.int i] = .ok (.d (.int i)) g := id rfl
/-! loops over a list that is made of typed things -/
section
variable {C : Nat → List W → Gs → Out W} {t : Tg} {b : Sts} {env : Env} {g : Gs} {r : OS} {α : Type} {e : α → D} {ys : List α}
theorem searchm_r (hr : forRun C t b (ys.map e) env g = r) (p : α → Bool) (I : Env → Gs → Prop) (J : Gs → Prop) (w : W) (i : I env g)
    (h : ∀ y ∈ ys, ∀ env g, I env g → ∃ env1, bindT t (.d (e y)) env = some env1 ∧ (p y = true → ∃ env2 g2, evSs C b env1 g = .nx env2 g2 ∧ I env2 g2) ∧ (p y = false → ∃ g2, evSs C b env1 g = .rt w g2 ∧ J g2)) :
    (ys.all p = true ∧ ∃ env' g', r = .nx env' g' ∧ I env' g') ∨ (ys.all p = false ∧ ∃ g', r = .rt w g' ∧ J g') := by
  subst hr
  revert env g
  induction ys with
  | nil => exact fun i => .inl ⟨rfl, _, _, rfl, i⟩
  | cons y ys ih =>
    intro env g i
    obtain ⟨env1, h1, h2, h3⟩ := h y List.mem_cons_self env g i
    have ih := @ih fun y hy => h y (List.mem_cons_of_mem _ hy)
    simp only [List.map_cons, forRun_cons, h1, nxS_some, List.all_cons]
    cases hp : p y with
    | true =>
      obtain ⟨env2, g2, e2, i2⟩ := h2 hp
      rw [e2, Bool.true_and]
      exact ih i2
    | false =>
      obtain ⟨g2, e2, j2⟩ := h3 hp
      rw [e2, Bool.false_and]
      exact .inr ⟨rfl, g2, rfl, j2⟩
theorem foldm_r (hr : forRun C t b (ys.map e) env g = r) {σ : Type} (f : σ → α → σ) (I : σ → Env → Gs → Prop) {s : σ} (i : I s env g)
    (h : ∀ y ∈ ys, ∀ s env g, I s env g → ∃ env1 env2 g2, bindT t (.d (e y)) env = some env1 ∧ evSs C b env1 g = .nx env2 g2 ∧ I (f s y) env2 g2) :
    ∃ env' g', r = .nx env' g' ∧ I (ys.foldl f s) env' g' := by
  subst hr
  revert s env g
  induction ys with
  | nil => exact fun i => ⟨_, _, rfl, i⟩
  | cons y ys ih =>
    intro env g s i
    obtain ⟨env1, env2, g2, h1, h2, h3⟩ := h y List.mem_cons_self s env g i
    simp only [List.map_cons, forRun_cons, h1, nxS_some, h2, OS.seq_nx, List.foldl_cons]
    exact ih (fun y hy => h y (List.mem_cons_of_mem _ hy)) h3
theorem invm_r (hr : forRun C t b (ys.map e) env g = r) (I : List α → Env → Gs → Prop) (i : I [] env g)
    (h : ∀ pre y post, ys = pre ++ y :: post → ∀ env g, I pre env g → ∃ env1 env2 g2, bindT t (.d (e y)) env = some env1 ∧ evSs C b env1 g = .nx env2 g2 ∧ I (pre ++ [y]) env2 g2) :
    ∃ env' g', r = .nx env' g' ∧ I ys env' g' := by
  subst hr
  suffices k : ∀ (post pre : List α), ys = pre ++ post → ∀ env g, I pre env g → ∃ env' g', forRun C t b (post.map e) env g = .nx env' g' ∧ I ys env' g' from k ys [] rfl env g i
  intro post
  induction post with
  | nil =>
    intro pre q env g i
    rw [List.append_nil] at q
    subst q
    exact ⟨env, g, rfl, i⟩
  | cons x post ih =>
    intro pre q env g i
    obtain ⟨env1, env2, g2, h1, h2, h3⟩ := h pre x post q env g i
    simp only [List.map_cons, forRun_cons, h1, nxS_some, h2, OS.seq_nx]
    exact ih (pre ++ [x]) (by simp [q]) env2 g2 h3
variable {own : List Nat} {tg : Tg} {elt : Ex}
theorem lcm_map (f : α → D) (h : ∀ y ∈ ys, ∃ env', bindT tg (.d (e y)) (wipeE env own) = some env' ∧ evE C elt env' g = .ok (.d (f y)) g) :
    lcRun C env own tg .none elt (ys.map e) g = .ok (ys.map f) g := by
  unfold lcRun
  suffices k : ∀ acc, lcGo (fun x => bindT tg (.d x) (wipeE env own)) (fun env g => evTo C .none env g) (fun env g => evE C elt env g) (ys.map e) acc g = .ok (acc ++ ys.map f) g by
    rw [k]; rfl
  induction ys with
  | nil => intro acc; simp [lcGo]
  | cons y ys ih =>
    intro acc
    obtain ⟨env', h1, h2⟩ := h y List.mem_cons_self
    have ih := ih fun y hy => h y (List.mem_cons_of_mem _ hy)
    rw [List.map_cons]
    unfold lcGo
    rw [h1]
    show Out.bind (Out.ok true g) _ = _
    rw [Out.bind_ok, if_pos rfl]
    show Out.bind (evE C elt env' g) _ = _
    rw [h2, Out.bind_ok, give_d, Out.bind_ok, ih, List.map_cons, List.append_assoc]
    rfl
theorem lcm_filter {c : Ex} (p : α → Bool) (f : α → D) (h : ∀ y ∈ ys, ∃ env', bindT tg (.d (e y)) (wipeE env own) = some env' ∧ evT C c env' g = .ok (p y) g ∧ (p y = true → evE C elt env' g = .ok (.d (f y)) g)) :
    lcRun C env own tg (.some c) elt (ys.map e) g = .ok ((ys.filter p).map f) g := by
  unfold lcRun
  suffices k : ∀ acc, lcGo (fun x => bindT tg (.d x) (wipeE env own)) (fun env g => evTo C (.some c) env g) (fun env g => evE C elt env g) (ys.map e) acc g = .ok (acc ++ (ys.filter p).map f) g by
    rw [k]; rfl
  induction ys with
  | nil => intro acc; simp [lcGo]
  | cons y ys ih =>
    intro acc
    obtain ⟨env', h1, h2, h3⟩ := h y List.mem_cons_self
    have ih := ih fun y hy => h y (List.mem_cons_of_mem _ hy)
    rw [List.map_cons]
    unfold lcGo
    rw [h1]
    show Out.bind (evT C c env' g) _ = _
    rw [h2, Out.bind_ok]
    cases hp : p y with
    | true =>
      rw [if_pos rfl]
      show Out.bind (evE C elt env' g) _ = _
      rw [h3 hp, Out.bind_ok, give_d, Out.bind_ok, ih, List.filter_cons_of_pos hp, List.map_cons, List.append_assoc]
      rfl
    | false =>
      rw [if_neg (by simp), ih, List.filter_cons_of_neg (by simp [hp])]
end
/-! the same, said by what is wanted -/
def Nx (o : OS) (Q : Env → Gs → Prop) : Prop := match o with
  | .nx env g => Q env g
  | _ => False
@[simp] theorem Nx_nx (env : Env) (g : Gs) (Q : Env → Gs → Prop) : Nx (.nx env g) Q = Q env g := id rfl
theorem Nx_ex {o : OS} {Q : Env → Gs → Prop} (h : Nx o Q) : ∃ env g, o = .nx env g ∧ Q env g := by
  cases o <;> first | exact h.elim | exact ⟨_, _, rfl, h⟩
def Rt (o : OS) (Q : W → Gs → Prop) : Prop := match o with
  | .rt w g => Q w g
  | _ => False
@[simp] theorem Rt_rt (w : W) (g : Gs) (Q : W → Gs → Prop) : Rt (.rt w g) Q = Q w g := id rfl
theorem Rt_ex {o : OS} {Q : W → Gs → Prop} (h : Rt o Q) : ∃ w g, o = .rt w g ∧ Q w g := by
  cases o <;> first | exact h.elim | exact ⟨_, _, rfl, h⟩
def Ok {α : Type} (o : Out α) (Q : α → Gs → Prop) : Prop := match o with
  | .ok a g => Q a g
  | _ => False
@[simp] theorem Ok_ok {α : Type} (a : α) (g : Gs) (Q : α → Gs → Prop) : Ok (.ok a g) Q = Q a g := id rfl
theorem Ok_ex {α : Type} {o : Out α} {Q : α → Gs → Prop} (h : Ok o Q) : ∃ a g, o = .ok a g ∧ Q a g := by
  cases o <;> first | exact h.elim | exact ⟨_, _, rfl, h⟩
section
variable {C : Nat → List W → Gs → Out W} {t : Tg} {b : Sts} {env : Env} {g : Gs} {r : OS} {α : Type} {e : α → D} {ys : List α}
theorem nxS_ex {o : Option Env} {Q : Env → Gs → Prop} (h : Nx (nxS C b g o) Q) : ∃ env1 env2 g2, o = some env1 ∧ evSs C b env1 g = .nx env2 g2 ∧ Q env2 g2 := by
  cases o with
  | none => exact h.elim
  | some env1 =>
    obtain ⟨env2, g2, e, q⟩ := Nx_ex h
    exact ⟨env1, env2, g2, rfl, e, q⟩
theorem foldW (hr : forRun C t b (ys.map e) env g = r) {σ : Type} (f : σ → α → σ) (I : σ → Env → Gs → Prop) {s : σ} (i : I s env g)
    (h : ∀ y ∈ ys, ∀ s env g, I s env g → Nx (nxS C b g (bindT t (.d (e y)) env)) (I (f s y))) :
    ∃ env' g', r = .nx env' g' ∧ I (ys.foldl f s) env' g' :=
  foldm_r hr f I i fun y hy s env g i => nxS_ex (h y hy s env g i)
theorem invW (hr : forRun C t b (ys.map e) env g = r) (I : List α → Env → Gs → Prop) (i : I [] env g)
    (h : ∀ pre y post, ys = pre ++ y :: post → ∀ env g, I pre env g → Nx (nxS C b g (bindT t (.d (e y)) env)) (I (pre ++ [y]))) :
    ∃ env' g', r = .nx env' g' ∧ I ys env' g' :=
  invm_r hr I i fun pre y post q env g i => nxS_ex (h pre y post q env g i)
/-- over a list of values -/
theorem invD {xs : List D} (hr : forRun C t b xs env g = r) (I : List D → Env → Gs → Prop) (i : I [] env g)
    (h : ∀ pre y post, xs = pre ++ y :: post → ∀ env g, I pre env g → Nx (nxS C b g (bindT t (.d y) env)) (I (pre ++ [y]))) :
    ∃ env' g', r = .nx env' g' ∧ I xs env' g' :=
  inv_r hr I i fun pre y post q env g i => nxS_ex (h pre y post q env g i)
theorem searchW (hr : forRun C t b (ys.map e) env g = r) (p : α → Bool) (I : Env → Gs → Prop) (w : W) (J : Gs → Prop) (i : I env g)
    (h : ∀ y ∈ ys, ∀ env g, I env g → (p y = true → Nx (nxS C b g (bindT t (.d (e y)) env)) I) ∧ (p y = false → Rt (nxS C b g (bindT t (.d (e y)) env)) fun w' g' => w' = w ∧ J g')) :
    (ys.all p = true ∧ ∃ env' g', r = .nx env' g' ∧ I env' g') ∨ (ys.all p = false ∧ ∃ g', r = .rt w g' ∧ J g') := by
  subst hr
  revert env g
  induction ys with
  | nil => exact fun i => .inl ⟨rfl, _, _, rfl, i⟩
  | cons y ys ih =>
    intro env g i
    obtain ⟨h1, h2⟩ := h y List.mem_cons_self env g i
    have ih := @ih fun y hy => h y (List.mem_cons_of_mem _ hy)
    simp only [List.map_cons, forRun_cons, List.all_cons]
    cases hp : p y with
    | true =>
      obtain ⟨env2, g2, e2, i2⟩ := Nx_ex (h1 hp)
      rw [e2, Bool.true_and]
      exact ih i2
    | false =>
      obtain ⟨w', g2, e2, rfl, j2⟩ := Rt_ex (h2 hp)
      rw [e2, Bool.false_and]
      exact .inr ⟨rfl, g2, rfl, j2⟩
theorem whlW {c : Ex} (hr : whlRun C c b turns env g = r) (I : Env → Gs → Prop) (m : Env → Nat) (i : I env g) (k : m env < turns)
    (h : ∀ env g, I env g → Ok (evT C c env g) fun r g1 => (r = true → Nx (evSs C b env g1) fun env2 g2 => I env2 g2 ∧ m env2 < m env) ∧ (r = false → I env g1)) :
    ∃ env' g' g'', r = .nx env' g'' ∧ I env' g' ∧ evT C c env' g' = .ok false g'' ∧ I env' g'' :=
  whl_r hr I m i k fun env g i => by
    obtain ⟨r, g1, e, h1, h2⟩ := Ok_ex (h env g i)
    refine ⟨r, g1, e, fun q => ?_, h2⟩
    obtain ⟨env2, g2, e2, i2⟩ := Nx_ex (h1 q)
    exact ⟨env2, g2, e2, i2⟩
def bindE (elt : Ex) (g : Gs) : Option Env → Out W
  | some env => evE C elt env g
  | none => .no
@[simp] theorem bindE_some (elt : Ex) (g : Gs) (env : Env) : bindE (C := C) elt g (some env) = evE C elt env g := id rfl
theorem lcW {own : List Nat} {tg : Tg} {elt : Ex} {xs : List D} {o : Out (List D)} (hr : lcRun C env own tg .none elt xs g = o) (I : List D → List D → Gs → Prop) (i : I [] [] g)
    (h : ∀ pre x post ys g, xs = pre ++ x :: post → I pre ys g → Ok (bindE (C := C) elt g (bindT tg (.d x) (wipeE env own))) fun w g2 => ∃ y, w = .d y ∧ I (pre ++ [x]) (ys ++ [y]) g2) :
    ∃ ys g', o = .ok ys g' ∧ I xs ys g' :=
  lc_r hr I i fun pre x post ys g q i => by
    obtain ⟨w, g2, e2, y, rfl, i2⟩ := Ok_ex (h pre x post ys g q i)
    cases eb : bindT tg (.d x) (wipeE env own) with
    | none => rw [eb] at e2; cases e2
    | some env' => rw [eb] at e2; exact ⟨env', y, g2, rfl, e2, i2⟩
end
@[simp] theorem sliceW_tup (g : Gs) (xs : List D) (lo hi : Option Int) : sliceW g (.tuple xs) lo hi = .ok (.d (.tuple (cutD xs lo hi))) g := id rfl
@[simp] theorem sliceW_lst (g : Gs) (xs : List D) (lo hi : Option Int) : sliceW g (.list xs) lo hi = newL g (cutD xs lo hi) := id rfl
def allO (g : Gs) : Option (List Bool) → Out W
  | some bs => .ok (.d (.bool (bs.all id))) g
  | none => .no
@[simp] theorem allO_map {α : Type} (g : Gs) (f : α → Bool) (xs : List α) : allO g (some (xs.map f)) = .ok (.d (.bool (xs.all f))) g := by
  simp [allO, List.all_map]
@[simp] theorem allO_some (g : Gs) (bs : List Bool) : allO g (some bs) = .ok (.d (.bool (bs.all id))) g := id rfl
@[simp] theorem boolsD_nil : boolsD [] = some [] := id rfl
@[simp] theorem boolsD_cons (b : Bool) (r : List D) : boolsD (.bool b :: r) = (boolsD r).map (b :: ·) := id rfl
@[simp] theorem biW_all (g : Gs) (xs : List D) : biW .all g [.list xs] = allO g (boolsD xs) := by
  simp only [biW, biD]
  cases boolsD xs <;> rfl
def anyO (g : Gs) : Option (List Bool) → Out W
  | some bs => .ok (.d (.bool (bs.any id))) g
  | none => .no
@[simp] theorem anyO_map {α : Type} (g : Gs) (f : α → Bool) (xs : List α) : anyO g (some (xs.map f)) = .ok (.d (.bool (xs.any f))) g := by
  simp [anyO, List.any_map]
@[simp] theorem anyO_some (g : Gs) (bs : List Bool) : anyO g (some bs) = .ok (.d (.bool (bs.any id))) g := id rfl
@[simp] theorem biW_any (g : Gs) (xs : List D) : biW .any g [.list xs] = anyO g (boolsD xs) := by
  simp only [biW, biD]
  cases boolsD xs <;> rfl
@[simp] theorem biW_tuple_l (g : Gs) (xs : List D) : biW .tuple g [.list xs] = .ok (.d (.tuple xs)) g := id rfl
@[simp] theorem biW_tuple_t (g : Gs) (xs : List D) : biW .tuple g [.tuple xs] = .ok (.d (.tuple xs)) g := id rfl
@[simp] theorem biW_list_l (g : Gs) (xs : List D) : biW .list g [.list xs] = newL g xs := id rfl
@[simp] theorem biW_list_t (g : Gs) (xs : List D) : biW .list g [.tuple xs] = newL g xs := id rfl
@[simp] theorem biW_min (g : Gs) (a b : Int) : biW .min2 g [.int a, .int b] = .ok (.d (.int (min a b))) g := by
  simp only [biW, biD]
  congr 3
  omega
@[simp] theorem biW_max (g : Gs) (a b : Int) : biW .max2 g [.int a, .int b] = .ok (.d (.int (max a b))) g := by
  simp only [biW, biD]
  congr 3
  omega
@[simp] theorem biW_zip (g : Gs) (xs ys : List D) : biW .listZip g [.list xs, .list ys] = newL g ((xs.zip ys).map fun p => .tuple [p.1, p.2]) := by
  simp [biW, biD, newB]
theorem eqvAll_refl : ∀ {xs : List D}, (∀ x ∈ xs, PyData.eqv x x = true) → PyData.eqvAll xs xs = true
  | [], _ => rfl
  | x :: xs, h => by
    rw [eqvAll_cons, h x List.mem_cons_self, eqvAll_refl fun y hy => h y (List.mem_cons_of_mem _ hy)]; rfl
theorem depthAll_le {k : Nat} : ∀ {xs : List D}, (∀ x ∈ xs, x.depth ≤ k) → PyData.depthAll xs ≤ k
  | [], _ => by simp [PyData.depthAll]
  | x :: xs, h => by
    rw [PyData.depthAll]
    have h1 := h x List.mem_cons_self
    have h2 := depthAll_le fun y hy => h y (List.mem_cons_of_mem x hy)
    omega
end RF
end
section
set_option Elab.async false
set_option linter.all false
set_option maxRecDepth 100000
/-! The defs' terms, printed by genlib.py; callees by their numbers. -/
namespace RF
open PySem
def d_is_within : Fn := ⟨3, 3, false, (.of [.ret (.land (.isi (.var 0) [.int]) (.land (.nt (.isi (.var 0) [.bool])) (.bone (.chain .le .le (.var 1) (.var 0) (.var 2)))))])⟩
def d_is_word : Fn := ⟨2, 2, false, (.of [.ret (.land (.isi (.var 0) [.str]) (.bone (.cmp .isin (.var 0) (.var 1))))])⟩
def d_is_tries (i_is_word : Nat) : Fn := ⟨1, 2, false, (.of [.ite (.lor (.nt (.isi (.var 0) [.tuple])) (.lor (.cmp .gt (.bi .len (.of [(.var 0)])) (.cst (.int 2))) (.bone (.nt (.bi .all (.of [(.lc (.call i_is_word (.of [(.var 1), (.glob "DEEDS" (.tuple [(.str "off"), (.str "on"), (.str "open"), (.str "shut")]))])) (.nm 1) (.seq (.var 0)) .none [1])])))))) (.of [.ret (.cst (.bool false))]) (.of []), .ret (.lor (.cmp .lt (.bi .len (.of [(.var 0)])) (.cst (.int 2))) (.bone (.cmp .ne (.idx (.var 0) (.cst (.int 0))) (.idx (.var 0) (.cst (.int 1))))))])⟩
def d_is_line (i_is_tries i_is_within : Nat) : Fn := ⟨2, 2, false, (.of [.ite (.lor (.nt (.isi (.var 0) [.tuple])) (.lor (.cmp .ne (.bi .len (.of [(.var 0)])) (.cst (.int 2))) (.bone (.nt (.call i_is_tries (.of [(.idx (.var 0) (.cst (.int 0)))])))))) (.of [.ret (.cst (.bool false))]) (.of []), .ret (.call i_is_within (.of [(.idx (.var 0) (.cst (.int 1))), (.cst (.int 0)), (.bin .sub (.var 1) (.cst (.int 1)))]))])⟩
def d_is_book_value (i_is_line : Nat) : Fn := ⟨1, 3, false, (.of [.ite (.lor (.nt (.isi (.var 0) [.tuple])) (.bone (.nt (.chain .le .le (.cst (.int 1)) (.bi .len (.of [(.var 0)])) (.glob "MOST_PAGES" (.int 3)))))) (.of [.ret (.cst (.bool false))]) (.of []), .for_ (.nm 1) (.seq (.var 0)) (.of [.ite (.lor (.nt (.isi (.var 1) [.tuple])) (.lor (.cmp .ne (.bi .len (.of [(.var 1)])) (.cst (.int 3))) (.bone (.nt (.bi .all (.of [(.lc (.call i_is_line (.of [(.var 2), (.bi .len (.of [(.var 0)]))])) (.nm 2) (.seq (.var 1)) .none [2])])))))) (.of [.ret (.cst (.bool false))]) (.of [])]), .ret (.cst (.bool true))])⟩
def d_is_room_value (i_is_within : Nat) : Fn := ⟨1, 2, false, (.of [.ite (.lor (.nt (.isi (.var 0) [.tuple])) (.lor (.cmp .ne (.bi .len (.of [(.var 0)])) (.cst (.int 3))) (.bone (.nt (.call i_is_within (.of [(.idx (.var 0) (.cst (.int 0))), (.cst (.int 2)), (.cst (.int 4))])))))) (.of [.ret (.cst (.bool false))]) (.of []), .ite (.lor (.nt (.call i_is_within (.of [(.idx (.var 0) (.cst (.int 1))), (.cst (.int 1)), (.cst (.int 3))]))) (.lor (.nt (.isi (.idx (.var 0) (.cst (.int 2))) [.tuple])) (.bone (.cmp .ne (.bi .len (.of [(.idx (.var 0) (.cst (.int 2)))])) (.cst (.int 4)))))) (.of [.ret (.cst (.bool false))]) (.of []), .ret (.bi .all (.of [(.lc (.call i_is_within (.of [(.var 1), (.cst (.int 0)), (.cst (.int 3))])) (.nm 1) (.seq (.idx (.var 0) (.cst (.int 2)))) .none [1])]))])⟩
def d_is_person_value (i_is_within i_is_book_value : Nat) : Fn := ⟨2, 2, false, (.of [.ite (.lor (.nt (.isi (.var 0) [.tuple])) (.lor (.cmp .ne (.bi .len (.of [(.var 0)])) (.cst (.int 4))) (.bone (.nt (.call i_is_within (.of [(.idx (.var 0) (.cst (.int 0))), (.cst (.int 1)), (.cst (.int 2))])))))) (.of [.ret (.cst (.bool false))]) (.of []), .ite (.lor (.nt (.call i_is_within (.of [(.idx (.var 0) (.cst (.int 1))), (.cst (.int 0)), (.var 1)]))) (.bone (.nt (.call i_is_within (.of [(.idx (.var 0) (.cst (.int 2))), (.idx (.var 0) (.cst (.int 1))), (.var 1)]))))) (.of [.ret (.cst (.bool false))]) (.of []), .ret (.call i_is_book_value (.of [(.idx (.var 0) (.cst (.int 3)))]))])⟩
def d_is_house_value (i_is_room_value i_is_word i_is_person_value : Nat) : Fn := ⟨1, 5, false, (.of [.ite (.lor (.nt (.isi (.var 0) [.tuple])) (.lor (.cmp .ne (.bi .len (.of [(.var 0)])) (.cst (.int 3))) (.bone (.nt (.call i_is_room_value (.of [(.idx (.var 0) (.cst (.int 0)))])))))) (.of [.ret (.cst (.bool false))]) (.of []), .set (.tup (.of [(.nm 1), (.nm 2), (.nm 3)])) (.var 0), .ite (.lor (.nt (.isi (.var 2) [.tuple])) (.bone (.nt (.chain .le .le (.cst (.int 1)) (.bi .len (.of [(.var 2)])) (.cst (.int 2)))))) (.of [.ret (.cst (.bool false))]) (.of []), .ite (.lor (.nt (.bi .all (.of [(.lc (.call i_is_word (.of [(.var 4), (.glob "WEATHERS" (.tuple [(.str "cold"), (.str "mild")]))])) (.nm 4) (.seq (.var 2)) .none [4])]))) (.bone (.cmp .ne (.bi .list (.of [(.var 2)])) (.bi .sortedSet (.of [(.var 2)]))))) (.of [.ret (.cst (.bool false))]) (.of []), .ret (.land (.isi (.var 3) [.tuple]) (.land (.cmp .eq (.bi .len (.of [(.var 3)])) (.cst (.int 2))) (.bone (.bi .all (.of [(.lc (.call i_is_person_value (.of [(.var 4), (.idx (.var 1) (.cst (.int 0)))])) (.nm 4) (.seq (.var 3)) .none [4])])))))])⟩
def d_divisor : Fn := ⟨2, 2, false, (.of [.whl (.cmp .gt (.var 1) (.cst (.int 0))) (.of [.par [0, 1] (.of [(.var 1), (.bin .mod (.var 0) (.var 1))])]), .ret (.var 0)])⟩
def d_lowest (i_divisor : Nat) : Fn := ⟨2, 3, false, (.of [.set (.nm 2) (.call i_divisor (.of [(.var 0), (.var 1)])), .ret (.tup (.of [(.bin .fdiv (.var 0) (.var 2)), (.bin .fdiv (.var 1) (.var 2))]))])⟩
def d_is_warmth (i_is_within i_divisor : Nat) : Fn := ⟨2, 2, false, (.of [.ite (.lor (.nt (.isi (.var 1) [.tuple])) (.lor (.cmp .ne (.bi .len (.of [(.var 1)])) (.cst (.int 2))) (.bone (.nt (.call i_is_within (.of [(.idx (.var 1) (.cst (.int 0))), (.cst (.int 0)), (.bin .pow (.cst (.int 10)) (.cst (.int 12)))])))))) (.of [.ret (.cst (.bool false))]) (.of []), .ite (.lor (.nt (.call i_is_within (.of [(.idx (.var 1) (.cst (.int 1))), (.cst (.int 1)), (.bin .pow (.cst (.int 10)) (.cst (.int 12)))]))) (.bone (.cmp .ne (.call i_divisor (.of [(.idx (.var 1) (.cst (.int 0))), (.idx (.var 1) (.cst (.int 1)))])) (.cst (.int 1))))) (.of [.ret (.cst (.bool false))]) (.of []), .ret (.cmp .le (.idx (.var 1) (.cst (.int 0))) (.bin .mul (.idx (.var 0) (.cst (.int 0))) (.idx (.var 1) (.cst (.int 1)))))])⟩
def d_is_start_value (i_is_warmth : Nat) : Fn := ⟨2, 2, false, (.of [.ite (.lor (.nt (.isi (.var 1) [.tuple])) (.lor (.cmp .ne (.bi .len (.of [(.var 1)])) (.cst (.int 3))) (.bone (.nt (.call i_is_warmth (.of [(.idx (.var 0) (.cst (.int 0))), (.idx (.var 1) (.cst (.int 0)))])))))) (.of [.ret (.cst (.bool false))]) (.of []), .ret (.land (.isi (.idx (.var 1) (.cst (.int 1))) [.bool]) (.bone (.isi (.idx (.var 1) (.cst (.int 2))) [.bool])))])⟩
def d_level_of : Fn := ⟨1, 2, false, (.of [.set (.nm 1) (.bin .fdiv (.idx (.var 0) (.cst (.int 0))) (.idx (.var 0) (.cst (.int 1)))), .ret (.bin .add (.bin .mul (.cst (.int 2)) (.var 1)) (.bi .int (.of [(.cmp .ne (.idx (.var 0) (.cst (.int 0))) (.bin .mul (.var 1) (.idx (.var 0) (.cst (.int 1)))))])))])⟩
def d_need_house (i_is_house_value : Nat) : Fn := ⟨1, 1, false, (.of [.ite (.nt (.call i_is_house_value (.of [(.var 0)]))) (.of [.raise "InvalidHouse" ""]) (.of [])])⟩
def d_need_start (i_is_start_value : Nat) : Fn := ⟨2, 2, false, (.of [.ite (.nt (.call i_is_start_value (.of [(.var 0), (.var 1)]))) (.of [.raise "InvalidStart" ""]) (.of [])])⟩
def d_period_of : Fn := ⟨1, 1, false, (.of [.ret (.bi .max2 (.of [(.idx (.idx (.idx (.var 0) (.cst (.int 2))) (.cst (.int 0))) (.cst (.int 0))), (.idx (.idx (.idx (.var 0) (.cst (.int 2))) (.cst (.int 1))) (.cst (.int 0)))]))])⟩
def d_begun (i_level_of : Nat) : Fn := ⟨2, 2, false, (.of [.ret (.tup (.of [(.call i_level_of (.of [(.idx (.var 1) (.cst (.int 0)))])), (.idx (.var 1) (.cst (.int 1))), (.idx (.var 1) (.cst (.int 2))), (.cst (.int 0)), (.tup (.of [(.cst (.int 0)), (.cst (.int 0))]))]))])⟩
def d_feeling_of : Fn := ⟨2, 2, false, (.of [.ite (.cmp .lt (.var 1) (.bin .mul (.cst (.int 2)) (.idx (.var 0) (.cst (.int 1))))) (.of [.ret (.cst (.int 0))]) (.of []), .ret (.ite (.cmp .gt (.var 1) (.bin .mul (.cst (.int 2)) (.idx (.var 0) (.cst (.int 2))))) (.cst (.int 1)) (.cst (.int 2)))])⟩
def d_changed : Fn := ⟨2, 4, false, (.of [.set (.tup (.of [(.nm 2), (.nm 3)])) (.var 0), .ite (.cmp .isin (.var 1) (.tup (.of [(.cst (.str "on")), (.cst (.str "off"))]))) (.of [.ret (.tup (.of [(.cmp .eq (.var 1) (.cst (.str "on"))), (.var 3)]))]) (.of []), .ret (.ite (.cmp .ne (.var 1) (.cst (.str ""))) (.tup (.of [(.var 2), (.cmp .eq (.var 1) (.cst (.str "open")))])) (.var 0))])⟩
def d_first_change (i_changed : Nat) : Fn := ⟨2, 4, false, (.of [.set (.nm 2) (.frz (.lc (.var 3) (.nm 3) (.seq (.var 1)) (.some (.cmp .ne (.call i_changed (.of [(.var 0), (.var 3)])) (.var 0))) [3])), .ret (.ite (.cmp .ne (.var 2) (.lst (.of []))) (.idx (.var 2) (.cst (.int 0))) (.cst (.str "")))])⟩
def d_looks : Fn := ⟨3, 3, false, (.of [.ret (.cmp .eq (.bin .mod (.idx (.var 1) (.cst (.int 3))) (.idx (.idx (.idx (.var 0) (.cst (.int 2))) (.var 2)) (.cst (.int 0)))) (.cst (.int 0)))])⟩
def d_looked (i_looks i_feeling_of i_first_change i_changed : Nat) : Fn := ⟨3, 13, false, (.of [.ite (.nt (.call i_looks (.of [(.var 0), (.var 1), (.var 2)]))) (.of [.ret (.tup (.of [(.var 1), (.cst (.str ""))]))]) (.of []), .set (.tup (.of [(.nm 7), (.nm 8), (.nm 9), (.nm 10), (.nm 6)])) (.var 1), .set (.nm 3) (.idx (.idx (.var 0) (.cst (.int 2))) (.var 2)), .set (.tup (.of [(.nm 11), (.nm 12)])) (.idx (.idx (.idx (.var 3) (.cst (.int 3))) (.idx (.var 6) (.var 2))) (.call i_feeling_of (.of [(.var 3), (.var 7)]))), .set (.nm 4) (.call i_first_change (.of [(.tup (.of [(.var 8), (.var 9)])), (.var 11)])), .set (.nm 5) (.call i_changed (.of [(.tup (.of [(.var 8), (.var 9)])), (.var 4)])), .set (.nm 6) (.ite (.cmp .eq (.var 2) (.cst (.int 0))) (.tup (.of [(.var 12), (.idx (.var 6) (.cst (.int 1)))])) (.tup (.of [(.idx (.var 6) (.cst (.int 0))), (.var 12)]))), .ret (.tup (.of [(.tup (.of [(.var 7), (.idx (.var 5) (.cst (.int 0))), (.idx (.var 5) (.cst (.int 1))), (.var 10), (.var 6)])), (.var 4)]))])⟩
def d_change_of : Fn := ⟨3, 7, false, (.of [.set (.tup (.of [(.nm 4), (.nm 5), (.nm 6)])) (.idx (.var 0) (.cst (.int 0))), .set (.nm 3) (.bin .add (.bin .mul (.cst (.int 2)) (.bi .int (.of [(.idx (.var 1) (.cst (.int 2)))]))) (.bi .int (.of [(.cmp .eq (.var 2) (.cst (.str "cold")))]))), .ret (.bin .sub (.bin .mul (.var 5) (.bi .int (.of [(.idx (.var 1) (.cst (.int 1)))]))) (.idx (.var 6) (.var 3)))])⟩
def d_passed (i_change_of i_period_of : Nat) : Fn := ⟨3, 4, false, (.of [.set (.nm 3) (.bin .add (.idx (.var 1) (.cst (.int 0))) (.bin .mul (.cst (.int 2)) (.call i_change_of (.of [(.var 0), (.var 1), (.var 2)])))), .set (.nm 3) (.bi .min2 (.of [(.bin .mul (.cst (.int 2)) (.idx (.idx (.var 0) (.cst (.int 0))) (.cst (.int 0)))), (.bi .max2 (.of [(.cst (.int 0)), (.var 3)]))])), .ret (.bin .add (.bin .add (.tup (.of [(.var 3)])) (.sl (.var 1) (.some (.cst (.int 1))) (.some (.cst (.int 3))))) (.tup (.of [(.bin .mod (.bin .add (.idx (.var 1) (.cst (.int 3))) (.cst (.int 1))) (.call i_period_of (.of [(.var 0)]))), (.idx (.var 1) (.cst (.int 4)))])))])⟩
def d_step (i_looked i_passed : Nat) : Fn := ⟨3, 5, false, (.of [.set (.tup (.of [(.nm 1), (.nm 3)])) (.call i_looked (.of [(.var 0), (.var 1), (.cst (.int 0))])), .set (.tup (.of [(.nm 1), (.nm 4)])) (.call i_looked (.of [(.var 0), (.var 1), (.cst (.int 1))])), .ret (.tup (.of [(.call i_passed (.of [(.var 0), (.var 1), (.var 2)])), (.tup (.of [(.var 3), (.var 4)])), (.var 1)]))])⟩
def d_moved (i_lowest : Nat) : Fn := ⟨3, 4, false, (.of [.set (.nm 3) (.bin .add (.idx (.var 1) (.cst (.int 0))) (.bin .mul (.var 2) (.idx (.var 1) (.cst (.int 1))))), .set (.nm 3) (.bi .min2 (.of [(.bin .mul (.idx (.idx (.var 0) (.cst (.int 0))) (.cst (.int 0))) (.idx (.var 1) (.cst (.int 1)))), (.bi .max2 (.of [(.cst (.int 0)), (.var 3)]))])), .ret (.call i_lowest (.of [(.var 3), (.idx (.var 1) (.cst (.int 1)))]))])⟩
def d_led (i_begun i_step i_moved i_change_of : Nat) : Fn := ⟨3, 10, false, (.of [.par [4, 5, 6] (.of [(.idx (.var 1) (.cst (.int 0))), (.call i_begun (.of [(.var 0), (.var 1)])), (.lst (.of []))]), .for_ (.nm 3) (.seq (.var 2)) (.of [.set (.tup (.of [(.nm 7), (.nm 8), (.nm 9)])) (.call i_step (.of [(.var 0), (.var 5), (.var 3)])), .app (.var 6) (.tup (.of [(.var 4), (.var 5), (.var 8)])), .par [4, 5] (.of [(.call i_moved (.of [(.var 0), (.var 4), (.call i_change_of (.of [(.var 0), (.var 9), (.var 3)]))])), (.var 7)])]), .frzv 6, .ret (.tup (.of [(.var 6), (.var 4), (.var 5)]))])⟩
def d_is_run_value : Fn := ⟨2, 3, false, (.of [.ite (.lor (.nt (.isi (.var 1) [.tuple])) (.bone (.cmp .gt (.bi .len (.of [(.var 1)])) (.glob "MOST_TICKS" (.int 60))))) (.of [.ret (.cst (.bool false))]) (.of []), .ret (.bi .all (.of [(.lc (.land (.isi (.var 2) [.str]) (.bone (.cmp .isin (.var 2) (.idx (.var 0) (.cst (.int 1)))))) (.nm 2) (.seq (.var 1)) .none [2])]))])⟩
def d_need_run (i_need_house i_need_start i_is_run_value : Nat) : Fn := ⟨3, 3, false, (.of [.ex (.call i_need_house (.of [(.var 0)])), .ex (.call i_need_start (.of [(.var 0), (.var 1)])), .ite (.nt (.call i_is_run_value (.of [(.var 0), (.var 2)]))) (.of [.raise "InvalidRun" ""]) (.of [])])⟩
def d_deeds (i_need_run i_led : Nat) : Fn := ⟨3, 4, false, (.of [.ex (.call i_need_run (.of [(.var 0), (.var 1), (.var 2)])), .ret (.lc (.idx (.var 3) (.cst (.int 2))) (.nm 3) (.seq (.idx (.call i_led (.of [(.var 0), (.var 1), (.var 2)])) (.cst (.int 0)))) .none [3])])⟩
def d_warmths (i_need_run i_led : Nat) : Fn := ⟨3, 7, false, (.of [.ex (.call i_need_run (.of [(.var 0), (.var 1), (.var 2)])), .set (.tup (.of [(.nm 3), (.nm 4), (.nm 5)])) (.call i_led (.of [(.var 0), (.var 1), (.var 2)])), .ret (.bin .add (.lc (.idx (.var 6) (.cst (.int 0))) (.nm 6) (.seq (.var 3)) .none [6]) (.lst (.of [(.var 4)])))])⟩
def d_stand_behind (i_need_run i_led : Nat) : Fn := ⟨3, 3, false, (.of [.ex (.call i_need_run (.of [(.var 0), (.var 1), (.var 2)])), .ret (.idx (.call i_led (.of [(.var 0), (.var 1), (.var 2)])) (.cst (.int 2)))])⟩
def d__law_deck : Fn := ⟨2, 2, true, (.of [.ite (.cmp .ge (.var 0) (.bin .pow (.cst (.int 10)) (.cst (.int 18)))) (.of [.ret (.lst (.of [(.bin .sub (.var 0) (.bin .pow (.cst (.int 10)) (.cst (.int 18)))), (.bin .mod (.var 0) (.cst (.int 2147483579))), (.var 1)]))]) (.of []), .ret (.lst (.of [(.cst (.int 0)), (.bin .mod (.var 0) (.cst (.int 2147483579))), (.var 1)]))])⟩
def d__law_pick : Fn := ⟨2, 4, false, (.of [.ite (.cmp .gt (.idx (.var 0) (.cst (.int 0))) (.cst (.int 1))) (.of [.set (.nm 3) (.bin .mod (.bi .int (.of [(.idx (.var 0) (.cst (.int 0)))])) (.var 1)), .setix (.var 0) (.cst (.int 0)) (.bin .fdiv (.idx (.var 0) (.cst (.int 0))) (.var 1)), .ret (.var 3)]) (.of []), .setix (.var 0) (.cst (.int 2)) (.bin .add (.idx (.var 0) (.cst (.int 2))) (.cst (.int 1))), .set (.nm 2) (.bin .mod (.bin .pow (.bin .add (.idx (.var 0) (.cst (.int 1))) (.bin .mul (.cst (.int 15485867)) (.idx (.var 0) (.cst (.int 2))))) (.cst (.int 5))) (.cst (.int 2147483647))), .set (.nm 3) (.bin .fdiv (.bin .mod (.bin .pow (.bin .add (.var 2) (.bin .mul (.cst (.int 7919)) (.idx (.var 0) (.cst (.int 2))))) (.cst (.int 3))) (.cst (.int 2147483629))) (.cst (.int 32))), .ret (.bin .mod (.bi .int (.of [(.var 3)])) (.var 1))])⟩
def d__law_one (i__law_pick : Nat) : Fn := ⟨2, 2, false, (.of [.ret (.idx (.var 1) (.call i__law_pick (.of [(.var 0), (.bi .len (.of [(.var 1)]))])))])⟩
def d__law_tried (i__law_one i__law_pick : Nat) : Fn := ⟨1, 4, false, (.of [.set (.nm 1) (.call i__law_one (.of [(.var 0), (.frz (.lst (.of [(.cst (.str "off")), (.cst (.str "on")), (.cst (.str "open")), (.cst (.str "shut"))])))])), .set (.nm 2) (.call i__law_one (.of [(.var 0), (.frz (.lc (.var 3) (.nm 3) (.seq (.frz (.lst (.of [(.cst (.str "off")), (.cst (.str "on")), (.cst (.str "open")), (.cst (.str "shut"))])))) (.some (.cmp .ne (.var 3) (.var 1))) [3]))])), .ret (.idx (.lst (.of [(.tup (.of [])), (.tup (.of [(.var 1)])), (.tup (.of [(.var 1)])), (.tup (.of [(.var 1), (.var 2)]))])) (.call i__law_pick (.of [(.var 0), (.cst (.int 4))])))])⟩
def d__law_book (i__law_pick i__law_tried : Nat) : Fn := ⟨2, 7, false, (.of [.par [3, 4] (.of [(.bin .add (.cst (.int 1)) (.call i__law_pick (.of [(.var 0), (.var 1)]))), (.tup (.of []))]), .for_ (.nm 2) (.rng1 (.var 3)) (.of [.set (.nm 5) (.tup (.of [])), .for_ (.nm 6) (.rng1 (.cst (.int 3))) (.of [.set (.nm 5) (.bin .add (.var 5) (.tup (.of [(.tup (.of [(.call i__law_tried (.of [(.var 0)])), (.call i__law_pick (.of [(.var 0), (.var 3)]))]))])))]), .set (.nm 4) (.bin .add (.var 4) (.tup (.of [(.var 5)])))]), .ret (.var 4)])⟩
def d__law_warm (i__law_one : Nat) : Fn := ⟨1, 3, false, (.of [.set (.nm 1) (.call i__law_one (.of [(.var 0), (.frz (.lst (.of [(.tup (.of [(.cst (.str "on")), (.cst (.str "shut"))])), (.tup (.of [(.cst (.str "on"))])), (.tup (.of [(.cst (.str "shut")), (.cst (.str "on"))])), (.tup (.of [(.cst (.str "shut"))]))])))])), .set (.nm 2) (.call i__law_one (.of [(.var 0), (.frz (.lst (.of [(.tup (.of [(.cst (.str "open")), (.cst (.str "off"))])), (.tup (.of [(.cst (.str "off"))])), (.tup (.of [(.cst (.str "open"))])), (.tup (.of [(.cst (.str "off")), (.cst (.str "open"))]))])))])), .ret (.tup (.of [(.tup (.of [(.tup (.of [(.var 1), (.cst (.int 0))])), (.tup (.of [(.var 2), (.cst (.int 0))])), (.tup (.of [(.tup (.of [])), (.cst (.int 0))]))]))]))])⟩
def d__law_house (i__law_pick i__law_one i__law_warm i__law_book : Nat) : Fn := ⟨3, 12, false, (.of [.set (.nm 3) (.bin .add (.cst (.int 2)) (.call i__law_pick (.of [(.var 0), (.bin .sub (.var 1) (.cst (.int 1)))]))), .set (.nm 4) (.bi .tuple (.of [(.bi .sorted (.of [(.lc (.call i__law_pick (.of [(.var 0), (.cst (.int 4))])) (.nm 11) (.rng1 (.cst (.int 4))) .none [11])]))])), .set (.nm 5) (.call i__law_one (.of [(.var 0), (.frz (.lst (.of [(.tup (.of [(.cst (.str "cold"))])), (.tup (.of [(.cst (.str "mild"))])), (.tup (.of [(.cst (.str "cold")), (.cst (.str "mild"))])), (.tup (.of [(.cst (.str "cold")), (.cst (.str "mild"))]))])))])), .set (.nm 6) (.tup (.of [])), .for_ (.nm 7) (.rng1 (.cst (.int 2))) (.of [.set (.nm 8) (.call i__law_pick (.of [(.var 0), (.bin .add (.var 3) (.cst (.int 1)))])), .set (.nm 9) (.bin .add (.var 8) (.call i__law_pick (.of [(.var 0), (.bin .add (.bin .sub (.var 3) (.var 8)) (.cst (.int 1)))]))), .set (.nm 10) (.ite (.cmp .eq (.call i__law_pick (.of [(.var 0), (.cst (.int 2))])) (.cst (.int 0))) (.call i__law_warm (.of [(.var 0)])) (.call i__law_book (.of [(.var 0), (.var 2)]))), .set (.nm 6) (.bin .add (.var 6) (.tup (.of [(.tup (.of [(.bin .add (.cst (.int 1)) (.call i__law_pick (.of [(.var 0), (.cst (.int 2))]))), (.var 8), (.var 9), (.var 10)]))])))]), .ret (.tup (.of [(.tup (.of [(.var 3), (.bin .add (.cst (.int 1)) (.call i__law_pick (.of [(.var 0), (.cst (.int 3))]))), (.var 4)])), (.var 5), (.var 6)]))])⟩
def d__law_frac : Fn := ⟨2, 4, false, (.of [.par [2, 3] (.of [(.var 0), (.var 1)]), .whl (.cmp .gt (.var 3) (.cst (.int 0))) (.of [.par [2, 3] (.of [(.var 3), (.bin .mod (.var 2) (.var 3))])]), .ret (.tup (.of [(.bin .fdiv (.var 0) (.var 2)), (.bin .fdiv (.var 1) (.var 2))]))])⟩
def d__law_run (i__law_one i__law_pick : Nat) : Fn := ⟨3, 4, false, (.of [.ret (.bi .tuple (.of [(.lc (.call i__law_one (.of [(.var 0), (.frz (.bi .list (.of [(.idx (.var 1) (.cst (.int 1)))])))])) (.nm 3) (.rng1 (.call i__law_pick (.of [(.var 0), (.bin .add (.var 2) (.cst (.int 1)))]))) .none [3])]))])⟩
def d_law_k04 (i__law_deck i__law_house i__law_pick i__law_frac i__law_run i_deeds i_stand_behind i_warmths : Nat) : Fn := ⟨1, 16, false, (.of [.for_ (.nm 1) (.seq (.frz (.sl (.adds (.frz (.lst (.of [(.cst (.int 0))]))) 0) .none (.some (.cst (.int 10)))))) (.of [.set (.nm 2) (.call i__law_deck (.of [(.var 1), (.cst (.int 4))])), .set (.nm 3) (.call i__law_house (.of [(.var 2), (.cst (.int 4)), (.cst (.int 3))])), .par [8, 9] (.of [(.call i__law_pick (.of [(.var 2), (.idx (.idx (.var 3) (.cst (.int 0))) (.cst (.int 0)))])), (.tup (.of [(.cmp .eq (.call i__law_pick (.of [(.var 2), (.cst (.int 2))])) (.cst (.int 0))), (.cmp .eq (.call i__law_pick (.of [(.var 2), (.cst (.int 2))])) (.cst (.int 0)))]))]), .set (.nm 4) (.lst (.of [])), .for_ (.nm 5) (.rng1 (.cst (.int 2))) (.of [.set (.nm 10) (.bin .add (.cst (.int 2)) (.call i__law_pick (.of [(.var 2), (.bin .pow (.cst (.int 10)) (.cst (.int 9)))]))), .set (.nm 11) (.bin .add (.cst (.int 1)) (.call i__law_pick (.of [(.var 2), (.bin .sub (.var 10) (.cst (.int 1)))]))), .app (.var 4) (.bin .add (.tup (.of [(.call i__law_frac (.of [(.bin .add (.bin .mul (.var 8) (.var 10)) (.var 11)), (.var 10)]))])) (.var 9))]), .frzv 4, .set (.nm 6) (.call i__law_run (.of [(.var 2), (.var 3), (.cst (.int 60))])), .ite (.cmp .ne (.call i_deeds (.of [(.var 3), (.idx (.var 4) (.cst (.int 0))), (.var 6)])) (.call i_deeds (.of [(.var 3), (.idx (.var 4) (.cst (.int 1))), (.var 6)]))) (.of [.ret (.cst (.bool false))]) (.of []), .ite (.cmp .ne (.call i_stand_behind (.of [(.var 3), (.idx (.var 4) (.cst (.int 0))), (.var 6)])) (.call i_stand_behind (.of [(.var 3), (.idx (.var 4) (.cst (.int 1))), (.var 6)]))) (.of [.ret (.cst (.bool false))]) (.of []), .set (.nm 7) (.frz (.bi .listZip (.of [(.call i_warmths (.of [(.var 3), (.idx (.var 4) (.cst (.int 0))), (.var 6)])), (.call i_warmths (.of [(.var 3), (.idx (.var 4) (.cst (.int 1))), (.var 6)]))]))), .for_ (.tup (.of [(.nm 12), (.nm 13)])) (.seq (.var 7)) (.of [.ite (.lor (.cmp .ne (.bin .fdiv (.idx (.var 12) (.cst (.int 0))) (.idx (.var 12) (.cst (.int 1)))) (.bin .fdiv (.idx (.var 13) (.cst (.int 0))) (.idx (.var 13) (.cst (.int 1))))) (.bone (.cmp .ne (.cmp .eq (.idx (.var 12) (.cst (.int 1))) (.cst (.int 1))) (.cmp .eq (.idx (.var 13) (.cst (.int 1))) (.cst (.int 1)))))) (.of [.ret (.cst (.bool false))]) (.of []), .set (.tup (.of [(.nm 14), (.nm 10)])) (.idx (.idx (.var 4) (.cst (.int 0))) (.cst (.int 0))), .par [11, 15] (.of [(.bin .mod (.bi .int (.of [(.idx (.var 12) (.cst (.int 0)))])) (.idx (.var 12) (.cst (.int 1)))), (.bin .mod (.bi .int (.of [(.var 14)])) (.var 10))]), .ite (.land (.cmp .gt (.idx (.var 12) (.cst (.int 1))) (.cst (.int 1))) (.bone (.cmp .ne (.bin .mul (.var 11) (.var 10)) (.bin .mul (.var 15) (.idx (.var 12) (.cst (.int 1))))))) (.of [.ret (.cst (.bool false))]) (.of [])])]), .ret (.cst (.bool true))])⟩
def d_need_book (i_is_book_value : Nat) : Fn := ⟨1, 1, false, (.of [.ite (.nt (.call i_is_book_value (.of [(.var 0)]))) (.of [.raise "InvalidBook" ""]) (.of [])])⟩
def d_line_text : Fn := ⟨2, 4, false, (.of [.set (.tup (.of [(.nm 2), (.nm 3)])) (.var 1), .ret (.bin .add (.bin .add (.fstr (.of [(.cst (.str "if ")), (.fmt (.var 0)), (.cst (.str ": "))])) (.ite (.cmp .eq (.var 2) (.tup (.of []))) (.cst (.str "nothing")) (.meth .join (.cst (.str " ")) (.var 2)))) (.fstr (.of [(.cst (.str ", page ")), (.fmt (.var 3))])))])⟩
def d_book_rows (i_line_text : Nat) : Fn := ⟨1, 5, false, (.of [.set (.nm 1) (.frz (.lst (.of []))), .for_ (.nm 2) (.seq (.var 0)) (.of [.set (.nm 1) (.frz (.bin .add (.bin .add (.var 1) (.lst (.of [(.cst (.str "page"))]))) (.lc (.call i_line_text (.of [(.var 3), (.var 4)])) (.tup (.of [(.nm 3), (.nm 4)])) (.zip (.glob "FEELINGS" (.tuple [(.str "cold"), (.str "hot"), (.str "well")])) (.var 2)) .none [3, 4])))]), .ret (.var 1)])⟩
def d_number_of : Fn := ⟨2, 4, false, (.of [.set (.nm 2) (.frz (.lc (.var 3) (.nm 3) (.rng1 (.bin .add (.var 1) (.cst (.int 1)))) (.some (.cmp .eq (.var 0) (.bi .str (.of [(.var 3)])))) [3])), .ret (.ite (.cmp .ne (.var 2) (.lst (.of []))) (.idx (.var 2) (.cst (.int 0))) (.cst .none))])⟩
def d_line_of (i_number_of : Nat) : Fn := ⟨2, 7, false, (.of [.set (.nm 2) (.fstr (.of [(.cst (.str "if ")), (.fmt (.var 0)), (.cst (.str ": "))])), .set (.nm 3) (.frz (.meth .split (.sl (.var 1) (.some (.bi .len (.of [(.var 2)]))) .none) (.cst (.str ", page ")))), .ite (.lor (.cmp .ne (.sl (.var 1) .none (.some (.bi .len (.of [(.var 2)])))) (.var 2)) (.bone (.cmp .ne (.bi .len (.of [(.var 3)])) (.cst (.int 2))))) (.of [.ret (.cst .none)]) (.of []), .par [4, 5] (.of [(.frz (.meth .split (.idx (.var 3) (.cst (.int 0))) (.cst (.str " ")))), (.call i_number_of (.of [(.idx (.var 3) (.cst (.int 1))), (.cst (.int 2))]))]), .ite (.cmp .eq (.var 4) (.lst (.of [(.cst (.str "nothing"))]))) (.of [.set (.nm 4) (.frz (.lst (.of [])))]) (.of []), .ite (.lor (.cmp .is (.var 5) (.cst .none)) (.lor (.cmp .gt (.bi .len (.of [(.var 4)])) (.cst (.int 2))) (.bone (.nt (.bi .all (.of [(.lc (.cmp .isin (.var 6) (.glob "DEEDS" (.tuple [(.str "off"), (.str "on"), (.str "open"), (.str "shut")]))) (.nm 6) (.seq (.var 4)) .none [6])])))))) (.of [.ret (.cst .none)]) (.of []), .ret (.ite (.lor (.cmp .lt (.bi .len (.of [(.var 4)])) (.cst (.int 2))) (.bone (.cmp .ne (.idx (.var 4) (.cst (.int 0))) (.idx (.var 4) (.cst (.int 1)))))) (.tup (.of [(.bi .tuple (.of [(.var 4)])), (.var 5)])) (.cst .none))])⟩
def d_part_of (i_line_of i_number_of : Nat) : Fn := ⟨1, 6, false, (.of [.ite (.cmp .eq (.var 0) (.cst (.str "page"))) (.of [.ret (.tup (.of [(.cst (.str "page")), (.cst .none)]))]) (.of []), .for_ (.nm 1) (.seq (.glob "FEELINGS" (.tuple [(.str "cold"), (.str "hot"), (.str "well")]))) (.of [.set (.nm 4) (.call i_line_of (.of [(.var 1), (.var 0)])), .ite (.cmp .isnot (.var 4) (.cst .none)) (.of [.ret (.tup (.of [(.var 1), (.var 4)]))]) (.of [])]), .set (.nm 2) (.frz (.meth .split (.var 0) (.cst (.str " ")))), .set (.nm 3) (.frz (.lc (.call i_number_of (.of [(.var 5), (.cst (.int 4))])) (.nm 5) (.seq (.frz (.sl (.var 2) (.some (.cst (.int 1))) .none))) .none [5])), .ite (.land (.cmp .eq (.idx (.var 2) (.cst (.int 0))) (.cst (.str "room"))) (.land (.cmp .eq (.bi .len (.of [(.var 2)])) (.cst (.int 7))) (.bone (.cmp .notin (.cst .none) (.var 3))))) (.of [.ret (.tup (.of [(.cst (.str "room")), (.bi .tuple (.of [(.var 3)]))]))]) (.of []), .ite (.land (.cmp .eq (.idx (.var 2) (.cst (.int 0))) (.cst (.str "weather"))) (.bone (.cmp .isin (.sl (.var 2) (.some (.cst (.int 1))) .none) (.tup (.of [(.frz (.lst (.of [(.cst (.str "cold"))]))), (.frz (.lst (.of [(.cst (.str "mild"))]))), (.frz (.lst (.of [(.cst (.str "cold")), (.cst (.str "mild"))])))]))))) (.of [.ret (.tup (.of [(.cst (.str "weather")), (.bi .tuple (.of [(.sl (.var 2) (.some (.cst (.int 1))) .none)]))]))]) (.of []), .ite (.land (.cmp .eq (.idx (.var 2) (.cst (.int 0))) (.cst (.str "person"))) (.land (.cmp .eq (.bi .len (.of [(.var 2)])) (.cst (.int 4))) (.bone (.cmp .notin (.cst .none) (.var 3))))) (.of [.ret (.tup (.of [(.cst (.str "person")), (.bi .tuple (.of [(.var 3)]))]))]) (.of []), .ret (.cst .none)])⟩
def d_parts_of (i_part_of : Nat) : Fn := ⟨1, 3, false, (.of [.ite (.nt (.isi (.var 0) [.str])) (.of [.dead]) (.of []), .set (.nm 1) (.frz (.lc (.call i_part_of (.of [(.var 2)])) (.nm 2) (.seq (.frz (.meth .split (.var 0) (.cst (.str "\n"))))) .none [2])), .ite (.cmp .isin (.cst .none) (.var 1)) (.of [.dead]) (.of []), .ret (.var 1)])⟩
def d_book_of (i_is_book_value : Nat) : Fn := ⟨1, 5, false, (.of [.set (.nm 1) (.frz (.bin .add (.lst (.of [(.cst (.str "page"))])) (.bi .list (.of [(.glob "FEELINGS" (.tuple [(.str "cold"), (.str "hot"), (.str "well")]))])))), .ite (.lor (.cmp .eq (.var 0) (.lst (.of []))) (.bone (.cmp .ne (.lc (.idx (.var 4) (.cst (.int 0))) (.nm 4) (.seq (.var 0)) .none [4]) (.bin .mul (.var 1) (.bin .fdiv (.bi .len (.of [(.var 0)])) (.cst (.int 4))))))) (.of [.ret (.cst .none)]) (.of []), .set (.nm 2) (.bi .tuple (.of [(.lc (.bi .tuple (.of [(.lc (.idx (.var 4) (.cst (.int 1))) (.nm 4) (.seq (.frz (.sl (.var 0) (.some (.bin .add (.var 3) (.cst (.int 1)))) (.some (.bin .add (.var 3) (.cst (.int 4))))))) .none [4])])) (.nm 3) (.rng3 (.cst (.int 0)) (.bi .len (.of [(.var 0)])) (.cst (.int 4))) .none [3])])), .ret (.ite (.call i_is_book_value (.of [(.var 2)])) (.var 2) (.cst .none))])⟩
def d_house_of (i_book_of i_is_house_value : Nat) : Fn := ⟨1, 8, false, (.of [.set (.nm 1) (.frz (.lc (.idx (.var 7) (.cst (.int 0))) (.nm 7) (.seq (.var 0)) .none [7])), .ite (.lor (.cmp .ne (.sl (.var 1) .none (.some (.cst (.int 3)))) (.lst (.of [(.cst (.str "room")), (.cst (.str "weather")), (.cst (.str "person"))]))) (.bone (.cmp .ne (.meth .count (.var 1) (.cst (.str "person"))) (.cst (.int 2))))) (.of [.ret (.cst .none)]) (.of []), .set (.nm 2) (.bin .add (.meth .index (.sl (.var 1) (.some (.cst (.int 3))) .none) (.cst (.str "person"))) (.cst (.int 3))), .set (.nm 3) (.frz (.lst (.of [(.call i_book_of (.of [(.frz (.sl (.var 0) (.some (.cst (.int 3))) (.some (.var 2))))])), (.call i_book_of (.of [(.frz (.sl (.var 0) (.some (.bin .add (.var 2) (.cst (.int 1)))) .none))]))]))), .ite (.cmp .isin (.cst .none) (.var 3)) (.of [.ret (.cst .none)]) (.of []), .set (.nm 4) (.idx (.idx (.var 0) (.cst (.int 0))) (.cst (.int 1))), .set (.nm 5) (.tup (.of [(.bin .add (.idx (.idx (.var 0) (.cst (.int 2))) (.cst (.int 1))) (.tup (.of [(.idx (.var 3) (.cst (.int 0)))]))), (.bin .add (.idx (.idx (.var 0) (.var 2)) (.cst (.int 1))) (.tup (.of [(.idx (.var 3) (.cst (.int 1)))])))])), .set (.nm 6) (.tup (.of [(.tup (.of [(.idx (.var 4) (.cst (.int 0))), (.idx (.var 4) (.cst (.int 1))), (.frz (.sl (.var 4) (.some (.cst (.int 2))) .none))])), (.idx (.idx (.var 0) (.cst (.int 1))) (.cst (.int 1))), (.var 5)])), .ret (.ite (.call i_is_house_value (.of [(.var 6)])) (.var 6) (.cst .none))])⟩
def d_book_text (i_need_book i_book_rows : Nat) : Fn := ⟨1, 1, false, (.of [.ex (.call i_need_book (.of [(.var 0)])), .ret (.meth .join (.cst (.str "\n")) (.call i_book_rows (.of [(.var 0)])))])⟩
def d_read_book (i_parts_of i_book_of : Nat) : Fn := ⟨1, 3, false, (.of [.set (.nm 1) (.call i_parts_of (.of [(.var 0)])), .set (.nm 2) (.call i_book_of (.of [(.var 1)])), .ite (.cmp .is (.var 2) (.cst .none)) (.of [.dead]) (.of []), .ret (.var 2)])⟩
def d_house_text (i_need_house i_book_rows : Nat) : Fn := ⟨1, 12, false, (.of [.ex (.call i_need_house (.of [(.var 0)])), .set (.tup (.of [(.tup (.of [(.nm 8), (.nm 9), (.nm 10)])), (.nm 2), (.nm 3)])) (.var 0), .set (.nm 1) (.lst (.of [(.meth .join (.cst (.str " ")) (.lc (.bi .str (.of [(.var 11)])) (.nm 11) (.seq (.bin .add (.tup (.of [(.cst (.str "room")), (.var 8), (.var 9)])) (.var 10))) .none [11])), (.meth .join (.cst (.str " ")) (.bin .add (.tup (.of [(.cst (.str "weather"))])) (.var 2)))])), .for_ (.tup (.of [(.nm 4), (.nm 5), (.nm 6), (.nm 7)])) (.seq (.var 3)) (.of [.ext 1 (.frz (.bin .add (.lst (.of [(.fstr (.of [(.cst (.str "person ")), (.fmt (.var 4)), (.cst (.str " ")), (.fmt (.var 5)), (.cst (.str " ")), (.fmt (.var 6))]))])) (.call i_book_rows (.of [(.var 7)]))))]), .frzv 1, .ret (.meth .join (.cst (.str "\n")) (.var 1))])⟩
def d_read_house (i_parts_of i_house_of : Nat) : Fn := ⟨1, 3, false, (.of [.set (.nm 1) (.call i_parts_of (.of [(.var 0)])), .set (.nm 2) (.call i_house_of (.of [(.var 1)])), .ite (.cmp .is (.var 2) (.cst .none)) (.of [.dead]) (.of []), .ret (.var 2)])⟩
def d__law_sort : Fn := ⟨1, 1, false, (.of [.ite (.isi (.var 0) [.bool]) (.of [.ret (.cst (.int 1))]) (.of []), .ite (.isi (.var 0) [.int]) (.of [.ret (.cst (.int 2))]) (.of []), .ite (.isi (.var 0) [.str]) (.of [.ret (.cst (.int 3))]) (.of []), .ite (.isi (.var 0) [.list]) (.of [.ret (.cst (.int 4))]) (.of []), .ret (.ite (.isi (.var 0) [.tuple]) (.cst (.int 5)) (.cst (.int 6)))])⟩
def d__law_same (i__law_sort i__law_same : Nat) : Fn := ⟨2, 4, false, (.of [.ite (.cmp .ne (.call i__law_sort (.of [(.var 0)])) (.call i__law_sort (.of [(.var 1)]))) (.of [.ret (.cst (.bool false))]) (.of []), .ite (.land (.cmp .gt (.call i__law_sort (.of [(.var 0)])) (.cst (.int 3))) (.bone (.cmp .lt (.call i__law_sort (.of [(.var 0)])) (.cst (.int 6))))) (.of [.ite (.cmp .ne (.bi .len (.of [(.var 0)])) (.bi .len (.of [(.var 1)]))) (.of [.ret (.cst (.bool false))]) (.of []), .ret (.cmp .eq (.lc (.var 2) (.tup (.of [(.nm 2), (.nm 3)])) (.enum (.var 0)) (.some (.nt (.call i__law_same (.of [(.var 3), (.idx (.var 1) (.var 2))])))) [2, 3]) (.lst (.of [])))]) (.of []), .ret (.cmp .eq (.var 0) (.var 1))])⟩
def d__law_book_lines : Fn := ⟨1, 8, false, (.of [.set (.nm 1) (.lst (.of [])), .for_ (.nm 2) (.seq (.var 0)) (.of [.app (.var 1) (.cst (.str "page")), .for_ (.tup (.of [(.nm 3), (.nm 4)])) (.enum (.frz (.lst (.of [(.cst (.str "cold")), (.cst (.str "hot")), (.cst (.str "well"))])))) (.of [.set (.tup (.of [(.nm 6), (.nm 7)])) (.idx (.var 2) (.var 3)), .set (.nm 5) (.ite (.cmp .ne (.var 6) (.tup (.of []))) (.meth .join (.cst (.str " ")) (.var 6)) (.cst (.str "nothing"))), .app (.var 1) (.bin .add (.bin .add (.bin .add (.bin .add (.bin .add (.cst (.str "if ")) (.var 4)) (.cst (.str ": "))) (.var 5)) (.cst (.str ", page "))) (.bi .str (.of [(.var 7)])))])]), .frzv 1, .ret (.var 1)])⟩
def d__law_house_lines (i__law_book_lines : Nat) : Fn := ⟨1, 11, false, (.of [.set (.tup (.of [(.nm 3), (.nm 4), (.nm 5)])) (.var 0), .set (.nm 1) (.frz (.bin .add (.lst (.of [(.bi .str (.of [(.idx (.var 3) (.cst (.int 0)))])), (.bi .str (.of [(.idx (.var 3) (.cst (.int 1)))]))])) (.lc (.bi .str (.of [(.var 10)])) (.nm 10) (.seq (.idx (.var 3) (.cst (.int 2)))) .none [10]))), .set (.nm 2) (.lst (.of [(.meth .join (.cst (.str " ")) (.bin .add (.lst (.of [(.cst (.str "room"))])) (.var 1)))])), .app (.var 2) (.meth .join (.cst (.str " ")) (.bin .add (.lst (.of [(.cst (.str "weather"))])) (.bi .list (.of [(.var 4)])))), .for_ (.tup (.of [(.nm 6), (.nm 7), (.nm 8), (.nm 9)])) (.seq (.var 5)) (.of [.app (.var 2) (.meth .join (.cst (.str " ")) (.lst (.of [(.cst (.str "person")), (.bi .str (.of [(.var 6)])), (.bi .str (.of [(.var 7)])), (.bi .str (.of [(.var 8)]))]))), .set (.nm 2) (.bin .add (.var 2) (.call i__law_book_lines (.of [(.var 9)])))]), .frzv 2, .ret (.var 2)])⟩
def d_law_k19 (i__law_deck i__law_house i__law_book_lines i__law_house_lines i__law_same i_book_text i_read_book i_house_text i_read_house : Nat) : Fn := ⟨1, 8, false, (.of [.for_ (.nm 1) (.seq (.frz (.sl (.adds (.frz (.lst (.of [(.cst (.int 0))]))) 0) .none (.some (.cst (.int 12)))))) (.of [.set (.nm 2) (.call i__law_deck (.of [(.var 1), (.cst (.int 19))])), .for_ (.nm 3) (.rng1 (.cst (.int 3))) (.of [.set (.nm 4) (.call i__law_house (.of [(.var 2), (.cst (.int 4)), (.cst (.int 3))])), .set (.nm 5) (.idx (.idx (.idx (.var 4) (.cst (.int 2))) (.cst (.int 0))) (.cst (.int 3))), .set (.nm 6) (.meth .join (.cst (.str "\n")) (.call i__law_book_lines (.of [(.var 5)]))), .set (.nm 7) (.meth .join (.cst (.str "\n")) (.call i__law_house_lines (.of [(.var 4)]))), .ite (.nt (.call i__law_same (.of [(.frz (.lst (.of [(.call i_book_text (.of [(.var 5)])), (.call i_read_book (.of [(.var 6)]))]))), (.frz (.lst (.of [(.var 6), (.var 5)])))]))) (.of [.ret (.cst (.bool false))]) (.of []), .ite (.nt (.call i__law_same (.of [(.frz (.lst (.of [(.call i_house_text (.of [(.var 4)])), (.call i_read_house (.of [(.var 7)]))]))), (.frz (.lst (.of [(.var 7), (.var 4)])))]))) (.of [.ret (.cst (.bool false))]) (.of [])])]), .ret (.cst (.bool true))])⟩
def d_is_run (i_need_house i_is_run_value : Nat) : Fn := ⟨2, 2, false, (.of [.ex (.call i_need_house (.of [(.var 0)])), .ret (.call i_is_run_value (.of [(.var 0), (.var 1)]))])⟩
def d__law_kin : Fn := ⟨1, 5, false, (.of [.dead, .dead, .dead, .dead, .dead, .dead, .dead])⟩
def d__law_try : Fn := ⟨1, 2, false, (.of [.dead, .dead, .dead])⟩
def d__law_start (i__law_one i__law_pick i__law_frac : Nat) : Fn := ⟨2, 5, false, (.of [.set (.nm 2) (.call i__law_one (.of [(.var 0), (.frz (.lst (.of [(.cst (.int 1)), (.cst (.int 1)), (.cst (.int 2)), (.cst (.int 3)), (.cst (.int 7)), (.bin .pow (.cst (.int 10)) (.cst (.int 6))), (.bin .add (.cst (.int 1)) (.call i__law_pick (.of [(.var 0), (.bin .pow (.cst (.int 10)) (.cst (.int 12)))])))])))])), .set (.nm 3) (.call i__law_pick (.of [(.var 0), (.bin .add (.bin .mul (.idx (.idx (.var 1) (.cst (.int 0))) (.cst (.int 0))) (.var 2)) (.cst (.int 1)))])), .set (.nm 4) (.ite (.cmp .le (.var 3) (.bin .pow (.cst (.int 10)) (.cst (.int 12)))) (.call i__law_frac (.of [(.var 3), (.var 2)])) (.tup (.of [(.cst (.int 1)), (.cst (.int 1))]))), .ret (.tup (.of [(.var 4), (.cmp .eq (.call i__law_pick (.of [(.var 0), (.cst (.int 2))])) (.cst (.int 0))), (.cmp .eq (.call i__law_pick (.of [(.var 0), (.cst (.int 2))])) (.cst (.int 0)))]))])⟩
def d__law_level : Fn := ⟨1, 1, false, (.of [.ret (.bin .add (.bin .mul (.cst (.int 2)) (.bin .fdiv (.idx (.var 0) (.cst (.int 0))) (.idx (.var 0) (.cst (.int 1))))) (.ite (.cmp .eq (.idx (.var 0) (.cst (.int 1))) (.cst (.int 1))) (.cst (.int 0)) (.cst (.int 1))))])⟩
def d__law_begin (i__law_level : Nat) : Fn := ⟨1, 1, false, (.of [.ret (.tup (.of [(.call i__law_level (.of [(.idx (.var 0) (.cst (.int 0)))])), (.idx (.var 0) (.cst (.int 1))), (.idx (.var 0) (.cst (.int 2))), (.cst (.int 0)), (.tup (.of [(.cst (.int 0)), (.cst (.int 0))]))]))])⟩
def d__law_feel : Fn := ⟨2, 2, false, (.of [.ite (.cmp .lt (.var 1) (.bin .mul (.cst (.int 2)) (.idx (.var 0) (.cst (.int 1))))) (.of [.ret (.cst (.str "cold"))]) (.of []), .ret (.ite (.cmp .gt (.var 1) (.bin .mul (.cst (.int 2)) (.idx (.var 0) (.cst (.int 2))))) (.cst (.str "hot")) (.cst (.str "well")))])⟩
def d__law_set : Fn := ⟨2, 2, false, (.of [.ite (.cmp .isin (.var 1) (.lst (.of [(.cst (.str "on")), (.cst (.str "off"))]))) (.of [.ret (.tup (.of [(.cmp .eq (.var 1) (.cst (.str "on"))), (.idx (.var 0) (.cst (.int 1)))]))]) (.of []), .ret (.ite (.cmp .isin (.var 1) (.lst (.of [(.cst (.str "open")), (.cst (.str "shut"))]))) (.tup (.of [(.idx (.var 0) (.cst (.int 0))), (.cmp .eq (.var 1) (.cst (.str "open")))])) (.var 0))])⟩
def d__law_looks : Fn := ⟨3, 3, false, (.of [.ret (.cmp .eq (.bin .mod (.bi .int (.of [(.idx (.var 1) (.cst (.int 3)))])) (.idx (.idx (.idx (.var 0) (.cst (.int 2))) (.var 2)) (.cst (.int 0)))) (.cst (.int 0)))])⟩
def d__law_look (i__law_looks i__law_feel i__law_set : Nat) : Fn := ⟨3, 11, false, (.of [.ite (.nt (.call i__law_looks (.of [(.var 0), (.var 1), (.var 2)]))) (.of [.ret (.tup (.of [(.var 1), (.cst (.str ""))]))]) (.of []), .par [7, 8] (.of [(.idx (.idx (.var 0) (.cst (.int 2))) (.var 2)), (.idx (.idx (.var 1) (.cst (.int 4))) (.var 2))]), .set (.tup (.of [(.nm 9), (.nm 10)])) (.idx (.idx (.idx (.var 7) (.cst (.int 3))) (.var 8)) (.meth .index (.lst (.of [(.cst (.str "cold")), (.cst (.str "hot")), (.cst (.str "well"))])) (.call i__law_feel (.of [(.var 7), (.idx (.var 1) (.cst (.int 0)))])))), .set (.nm 3) (.cst (.str "")), .for_ (.nm 4) (.seq (.var 9)) (.of [.ite (.land (.cmp .eq (.var 3) (.cst (.str ""))) (.bone (.cmp .ne (.call i__law_set (.of [(.frz (.sl (.var 1) (.some (.cst (.int 1))) (.some (.cst (.int 3))))), (.var 4)])) (.sl (.var 1) (.some (.cst (.int 1))) (.some (.cst (.int 3))))))) (.of [.set (.nm 3) (.var 4)]) (.of [])]), .set (.nm 5) (.ite (.cmp .eq (.var 2) (.cst (.int 0))) (.tup (.of [(.var 10), (.idx (.idx (.var 1) (.cst (.int 4))) (.cst (.int 1)))])) (.tup (.of [(.idx (.idx (.var 1) (.cst (.int 4))) (.cst (.int 0))), (.var 10)]))), .set (.nm 6) (.call i__law_set (.of [(.frz (.sl (.var 1) (.some (.cst (.int 1))) (.some (.cst (.int 3))))), (.var 3)])), .ret (.tup (.of [(.bin .add (.bin .add (.tup (.of [(.idx (.var 1) (.cst (.int 0)))])) (.var 6)) (.tup (.of [(.idx (.var 1) (.cst (.int 3))), (.var 5)]))), (.var 3)]))])⟩
def d__law_period : Fn := ⟨1, 2, false, (.of [.ret (.ite (.cmp .isin (.cst (.int 2)) (.lc (.idx (.var 1) (.cst (.int 0))) (.nm 1) (.seq (.idx (.var 0) (.cst (.int 2)))) .none [1])) (.cst (.int 2)) (.cst (.int 1)))])⟩
def d__law_gain : Fn := ⟨3, 5, false, (.of [.set (.nm 3) (.idx (.idx (.var 0) (.cst (.int 0))) (.cst (.int 2))), .set (.nm 4) (.idx (.var 3) (.bin .add (.ite (.idx (.var 1) (.cst (.int 2))) (.cst (.int 2)) (.cst (.int 0))) (.ite (.cmp .eq (.var 2) (.cst (.str "cold"))) (.cst (.int 1)) (.cst (.int 0))))), .ret (.bin .sub (.ite (.idx (.var 1) (.cst (.int 1))) (.idx (.idx (.var 0) (.cst (.int 0))) (.cst (.int 1))) (.cst (.int 0))) (.var 4))])⟩
def d__law_warmed (i__law_gain i__law_period : Nat) : Fn := ⟨3, 5, false, (.of [.set (.nm 3) (.bin .add (.idx (.var 1) (.cst (.int 0))) (.bin .mul (.cst (.int 2)) (.call i__law_gain (.of [(.var 0), (.var 1), (.var 2)])))), .set (.nm 3) (.bi .min2 (.of [(.bin .mul (.cst (.int 2)) (.idx (.idx (.var 0) (.cst (.int 0))) (.cst (.int 0)))), (.bi .max2 (.of [(.cst (.int 0)), (.var 3)]))])), .set (.nm 4) (.bin .mod (.bi .int (.of [(.bin .add (.idx (.var 1) (.cst (.int 3))) (.cst (.int 1)))])) (.call i__law_period (.of [(.var 0)]))), .ret (.tup (.of [(.var 3), (.idx (.var 1) (.cst (.int 1))), (.idx (.var 1) (.cst (.int 2))), (.var 4), (.idx (.var 1) (.cst (.int 4)))]))])⟩
def d__law_tick (i__law_look i__law_warmed : Nat) : Fn := ⟨3, 5, false, (.of [.set (.tup (.of [(.nm 1), (.nm 3)])) (.call i__law_look (.of [(.var 0), (.var 1), (.cst (.int 0))])), .set (.tup (.of [(.nm 1), (.nm 4)])) (.call i__law_look (.of [(.var 0), (.var 1), (.cst (.int 1))])), .ret (.tup (.of [(.call i__law_warmed (.of [(.var 0), (.var 1), (.var 2)])), (.tup (.of [(.var 3), (.var 4)])), (.var 1)]))])⟩
def d__law_led (i__law_begin i__law_tick i__law_gain i__law_frac : Nat) : Fn := ⟨3, 12, false, (.of [.par [4, 5, 6] (.of [(.idx (.var 1) (.cst (.int 0))), (.call i__law_begin (.of [(.var 1)])), (.lst (.of []))]), .for_ (.nm 3) (.seq (.var 2)) (.of [.set (.tup (.of [(.nm 8), (.nm 9), (.nm 10)])) (.call i__law_tick (.of [(.var 0), (.var 5), (.var 3)])), .app (.var 6) (.tup (.of [(.var 4), (.var 5), (.var 9), (.var 10)])), .set (.nm 7) (.bin .add (.idx (.var 4) (.cst (.int 0))) (.bin .mul (.call i__law_gain (.of [(.var 0), (.var 10), (.var 3)])) (.idx (.var 4) (.cst (.int 1))))), .par [7, 11] (.of [(.bi .max2 (.of [(.cst (.int 0)), (.var 7)])), (.idx (.idx (.var 0) (.cst (.int 0))) (.cst (.int 0)))]), .set (.nm 4) (.ite (.cmp .gt (.var 7) (.bin .mul (.var 11) (.idx (.var 4) (.cst (.int 1))))) (.tup (.of [(.var 11), (.cst (.int 1))])) (.call i__law_frac (.of [(.var 7), (.idx (.var 4) (.cst (.int 1)))]))), .set (.nm 5) (.var 8)]), .frzv 6, .ret (.tup (.of [(.var 6), (.tup (.of [(.var 4), (.var 5)]))]))])⟩
def d__law_known : Fn := ⟨0, 6, false, (.of [.par [4, 5] (.of [(.tup (.of [(.tup (.of [(.tup (.of [(.tup (.of [])), (.cst (.int 0))])), (.tup (.of [(.tup (.of [])), (.cst (.int 0))])), (.tup (.of [(.tup (.of [])), (.cst (.int 0))]))]))])), (.tup (.of [(.tup (.of [(.tup (.of [(.tup (.of [(.cst (.str "on")), (.cst (.str "shut"))])), (.cst (.int 0))])), (.tup (.of [(.tup (.of [(.cst (.str "off"))])), (.cst (.int 0))])), (.tup (.of [(.tup (.of [])), (.cst (.int 0))]))]))]))]), .set (.nm 0) (.tup (.of [(.tup (.of [(.tup (.of [(.tup (.of [(.cst (.str "on"))])), (.cst (.int 0))])), (.tup (.of [(.tup (.of [(.cst (.str "open")), (.cst (.str "off"))])), (.cst (.int 0))])), (.tup (.of [(.tup (.of [])), (.cst (.int 0))]))]))])), .set (.nm 1) (.tup (.of [(.cst (.int 3)), (.cst (.int 1)), (.tup (.of [(.cst (.int 0)), (.cst (.int 1)), (.cst (.int 1)), (.cst (.int 2))]))])), .set (.nm 2) (.tup (.of [(.var 1), (.tup (.of [(.cst (.str "mild"))])), (.tup (.of [(.tup (.of [(.cst (.int 1)), (.cst (.int 2)), (.cst (.int 3)), (.var 5)])), (.tup (.of [(.cst (.int 1)), (.cst (.int 0)), (.cst (.int 1)), (.var 0)]))]))])), .set (.nm 3) (.tup (.of [(.tup (.of [(.cst (.int 4)), (.cst (.int 2)), (.tup (.of [(.cst (.int 0)), (.cst (.int 1)), (.cst (.int 2)), (.cst (.int 3))]))])), (.tup (.of [(.cst (.str "cold")), (.cst (.str "mild"))])), (.tup (.of [(.tup (.of [(.cst (.int 1)), (.cst (.int 1)), (.cst (.int 3)), (.var 4)])), (.tup (.of [(.cst (.int 1)), (.cst (.int 0)), (.cst (.int 4)), (.var 4)]))]))])), .ret (.lst (.of [(.var 2), (.var 3), (.tup (.of [(.var 1), (.tup (.of [(.cst (.str "mild"))])), (.tup (.of [(.tup (.of [(.cst (.int 1)), (.cst (.int 2)), (.cst (.int 3)), (.var 5)])), (.tup (.of [(.cst (.int 1)), (.cst (.int 0)), (.cst (.int 1)), (.var 4)]))]))]))]))])⟩
def d_law_k03 (i__law_deck i__law_house i__law_one i__law_start i__law_run i__law_led i__law_same i_deeds i_is_run i_warmths i_stand_behind i__law_known : Nat) : Fn := ⟨1, 16, false, (.of [.for_ (.nm 1) (.seq (.frz (.sl (.adds (.frz (.lst (.of [(.cst (.int 0))]))) 0) .none (.some (.cst (.int 10)))))) (.of [.set (.nm 3) (.call i__law_deck (.of [(.var 1), (.cst (.int 3))])), .for_ (.nm 4) (.rng1 (.cst (.int 4))) (.of [.set (.nm 7) (.call i__law_house (.of [(.var 3), (.cst (.int 4)), (.cst (.int 3))])), .set (.nm 8) (.call i__law_one (.of [(.var 3), (.frz (.lst (.of [(.cst (.int 5)), (.cst (.int 20)), (.cst (.int 60))])))])), .par [10, 11] (.of [(.call i__law_start (.of [(.var 3), (.var 7)])), (.call i__law_run (.of [(.var 3), (.var 7), (.var 8)]))]), .set (.tup (.of [(.nm 12), (.nm 13)])) (.call i__law_led (.of [(.var 7), (.var 10), (.var 11)])), .ite (.nt (.call i__law_same (.of [(.call i_deeds (.of [(.var 7), (.var 10), (.var 11)])), (.frz (.lc (.idx (.var 15) (.cst (.int 2))) (.nm 15) (.seq (.var 12)) .none [15]))]))) (.of [.ret (.cst (.bool false))]) (.of []), .ite (.cmp .isnot (.call i_is_run (.of [(.var 7), (.var 11)])) (.cst (.bool true))) (.of [.ret (.cst (.bool false))]) (.of []), .set (.nm 9) (.frz (.bin .add (.lc (.idx (.var 15) (.cst (.int 0))) (.nm 15) (.seq (.var 12)) .none [15]) (.lst (.of [(.idx (.var 13) (.cst (.int 0)))])))), .ite (.nt (.call i__law_same (.of [(.call i_warmths (.of [(.var 7), (.var 10), (.var 11)])), (.var 9)]))) (.of [.ret (.cst (.bool false))]) (.of []), .ite (.nt (.call i__law_same (.of [(.call i_stand_behind (.of [(.var 7), (.var 10), (.var 11)])), (.idx (.var 13) (.cst (.int 1)))]))) (.of [.ret (.cst (.bool false))]) (.of [])]), .for_ (.nm 5) (.seq (.frz (.lst (.of [(.cst .none), (.lst (.of [])), (.cst (.str "cold")), (.tup (.of [(.cst .none)])), (.tup (.of [(.cst (.str "Cold"))])), (.bin .add (.var 11) (.tup (.of [(.cst (.int 0))]))), (.bin .mul (.tup (.of [(.idx (.idx (.var 7) (.cst (.int 1))) (.cst (.int 0)))])) (.cst (.int 61)))])))) (.of [.ite (.cmp .isnot (.call i_is_run (.of [(.var 7), (.var 5)])) (.cst (.bool false))) (.of [.ret (.cst (.bool false))]) (.of []), .ite (.cmp .ne (.tryc 31 (.of [(.var 7), (.var 10), (.var 5)])) (.cst (.str "run +"))) (.of [.ret (.cst (.bool false))]) (.of [])]), .set (.nm 6) (.frz (.lc (.var 14) (.nm 14) (.seq (.frz (.lst (.of [(.cst (.str "cold")), (.cst (.str "mild"))])))) (.some (.cmp .notin (.var 14) (.idx (.var 7) (.cst (.int 1))))) [14])), .ite (.land (.cmp .ne (.var 6) (.lst (.of []))) (.bone (.cmp .isnot (.call i_is_run (.of [(.var 7), (.tup (.of [(.idx (.var 6) (.cst (.int 0)))]))])) (.cst (.bool false))))) (.of [.ret (.cst (.bool false))]) (.of [])]), .set (.nm 2) (.call i_warmths (.of [(.idx (.call i__law_known (.of [])) (.cst (.int 1))), (.tup (.of [(.tup (.of [(.cst (.int 7)), (.cst (.int 3))])), (.cst (.bool true)), (.cst (.bool false))])), (.tup (.of [(.cst (.str "mild")), (.cst (.str "cold"))]))])), .ret (.cmp .eq (.var 2) (.lst (.of [(.tup (.of [(.cst (.int 7)), (.cst (.int 3))])), (.tup (.of [(.cst (.int 4)), (.cst (.int 1))])), (.tup (.of [(.cst (.int 4)), (.cst (.int 1))]))])))])⟩
def d_need_person (i_is_within : Nat) : Fn := ⟨1, 1, false, (.of [.ite (.nt (.call i_is_within (.of [(.var 0), (.cst (.int 0)), (.cst (.int 1))]))) (.of [.raise "InvalidPerson" ""]) (.of [])])⟩
def d_is_stand_value (i_is_within i_period_of : Nat) : Fn := ⟨2, 4, false, (.of [.ite (.lor (.nt (.isi (.var 1) [.tuple])) (.lor (.cmp .ne (.bi .len (.of [(.var 1)])) (.cst (.int 5))) (.bone (.nt (.call i_is_within (.of [(.idx (.var 1) (.cst (.int 0))), (.cst (.int 0)), (.bin .mul (.cst (.int 2)) (.idx (.idx (.var 0) (.cst (.int 0))) (.cst (.int 0))))])))))) (.of [.ret (.cst (.bool false))]) (.of []), .ite (.lor (.nt (.isi (.idx (.var 1) (.cst (.int 1))) [.bool])) (.bone (.nt (.isi (.idx (.var 1) (.cst (.int 2))) [.bool])))) (.of [.ret (.cst (.bool false))]) (.of []), .ite (.lor (.nt (.call i_is_within (.of [(.idx (.var 1) (.cst (.int 3))), (.cst (.int 0)), (.bin .sub (.call i_period_of (.of [(.var 0)])) (.cst (.int 1)))]))) (.lor (.nt (.isi (.idx (.var 1) (.cst (.int 4))) [.tuple])) (.bone (.cmp .ne (.bi .len (.of [(.idx (.var 1) (.cst (.int 4)))])) (.cst (.int 2)))))) (.of [.ret (.cst (.bool false))]) (.of []), .ret (.bi .all (.of [(.lc (.call i_is_within (.of [(.var 2), (.cst (.int 0)), (.bin .sub (.bi .len (.of [(.idx (.var 3) (.cst (.int 3)))])) (.cst (.int 1)))])) (.tup (.of [(.nm 2), (.nm 3)])) (.zip (.idx (.var 1) (.cst (.int 4))) (.idx (.var 0) (.cst (.int 2)))) .none [2, 3])]))])⟩
def d_need_stand (i_need_house i_is_stand_value : Nat) : Fn := ⟨2, 2, false, (.of [.ex (.call i_need_house (.of [(.var 0)])), .ite (.nt (.call i_is_stand_value (.of [(.var 0), (.var 1)]))) (.of [.raise "InvalidStand" ""]) (.of [])])⟩
def d_choices_of (i_looks i_looked i_changed : Nat) : Fn := ⟨3, 5, false, (.of [.ite (.nt (.call i_looks (.of [(.var 0), (.var 2), (.var 1)]))) (.of [.ret (.lst (.of [(.cst (.str ""))]))]) (.of []), .ite (.cmp .eq (.var 1) (.cst (.int 1))) (.of [.set (.nm 2) (.idx (.call i_looked (.of [(.var 0), (.var 2), (.cst (.int 0))])) (.cst (.int 0)))]) (.of []), .set (.nm 3) (.frz (.sl (.var 2) (.some (.cst (.int 1))) (.some (.cst (.int 3))))), .ret (.bin .add (.lst (.of [(.cst (.str ""))])) (.lc (.var 4) (.nm 4) (.seq (.glob "DEEDS" (.tuple [(.str "off"), (.str "on"), (.str "open"), (.str "shut")]))) (.some (.cmp .ne (.call i_changed (.of [(.var 3), (.var 4)])) (.var 3))) [4]))])⟩
def d_middle_of (i_looked i_changed : Nat) : Fn := ⟨4, 5, false, (.of [.ite (.cmp .eq (.var 1) (.cst (.int 1))) (.of [.set (.nm 2) (.idx (.call i_looked (.of [(.var 0), (.var 2), (.cst (.int 0))])) (.cst (.int 0)))]) (.of []), .set (.nm 4) (.call i_changed (.of [(.frz (.sl (.var 2) (.some (.cst (.int 1))) (.some (.cst (.int 3))))), (.var 3)])), .set (.nm 2) (.frz (.bin .add (.bin .add (.tup (.of [(.idx (.var 2) (.cst (.int 0)))])) (.var 4)) (.sl (.var 2) (.some (.cst (.int 3))) .none))), .ret (.ite (.cmp .eq (.var 1) (.cst (.int 0))) (.idx (.call i_looked (.of [(.var 0), (.var 2), (.cst (.int 1))])) (.cst (.int 0))) (.var 2))])⟩
def d_outcomes_of (i_middle_of i_passed : Nat) : Fn := ⟨4, 6, false, (.of [.set (.nm 4) (.call i_middle_of (.of [(.var 0), (.var 1), (.var 2), (.var 3)])), .ret (.lc (.tup (.of [(.var 5), (.call i_passed (.of [(.var 0), (.var 4), (.var 5)]))])) (.nm 5) (.seq (.idx (.var 0) (.cst (.int 1)))) .none [5])])⟩
def d_choices (i_need_house i_need_person i_need_stand i_choices_of : Nat) : Fn := ⟨3, 3, false, (.of [.ex (.call i_need_house (.of [(.var 0)])), .ex (.call i_need_person (.of [(.var 1)])), .ex (.call i_need_stand (.of [(.var 0), (.var 2)])), .ret (.call i_choices_of (.of [(.var 0), (.var 1), (.var 2)]))])⟩
def d_outcomes (i_need_house i_need_person i_need_stand i_choices_of i_outcomes_of : Nat) : Fn := ⟨4, 4, false, (.of [.ex (.call i_need_house (.of [(.var 0)])), .ex (.call i_need_person (.of [(.var 1)])), .ex (.call i_need_stand (.of [(.var 0), (.var 2)])), .ite (.lor (.nt (.isi (.var 3) [.str])) (.bone (.cmp .notin (.var 3) (.call i_choices_of (.of [(.var 0), (.var 1), (.var 2)]))))) (.of [.raise "InvalidDeed" ""]) (.of []), .ret (.call i_outcomes_of (.of [(.var 0), (.var 1), (.var 2), (.var 3)]))])⟩
def d__law_chosen (i__law_looks i__law_look i__law_set : Nat) : Fn := ⟨3, 5, false, (.of [.ite (.nt (.call i__law_looks (.of [(.var 0), (.var 2), (.var 1)]))) (.of [.ret (.lst (.of [(.cst (.str ""))]))]) (.of []), .ite (.cmp .eq (.var 1) (.cst (.int 1))) (.of [.set (.nm 2) (.idx (.call i__law_look (.of [(.var 0), (.var 2), (.cst (.int 0))])) (.cst (.int 0)))]) (.of []), .set (.nm 3) (.frz (.sl (.var 2) (.some (.cst (.int 1))) (.some (.cst (.int 3))))), .ret (.bin .add (.lst (.of [(.cst (.str ""))])) (.lc (.var 4) (.nm 4) (.seq (.frz (.lst (.of [(.cst (.str "off")), (.cst (.str "on")), (.cst (.str "open")), (.cst (.str "shut"))])))) (.some (.cmp .ne (.call i__law_set (.of [(.var 3), (.var 4)])) (.var 3))) [4]))])⟩
def d__law_middle (i__law_look i__law_set : Nat) : Fn := ⟨4, 4, false, (.of [.ite (.cmp .eq (.var 1) (.cst (.int 1))) (.of [.set (.nm 2) (.idx (.call i__law_look (.of [(.var 0), (.var 2), (.cst (.int 0))])) (.cst (.int 0)))]) (.of []), .set (.nm 2) (.frz (.bin .add (.bin .add (.tup (.of [(.idx (.var 2) (.cst (.int 0)))])) (.call i__law_set (.of [(.frz (.sl (.var 2) (.some (.cst (.int 1))) (.some (.cst (.int 3))))), (.var 3)]))) (.sl (.var 2) (.some (.cst (.int 3))) .none))), .ret (.ite (.cmp .eq (.var 1) (.cst (.int 0))) (.idx (.call i__law_look (.of [(.var 0), (.var 2), (.cst (.int 1))])) (.cst (.int 0))) (.var 2))])⟩
def d__law_outs (i__law_middle i__law_warmed : Nat) : Fn := ⟨4, 6, false, (.of [.set (.nm 4) (.call i__law_middle (.of [(.var 0), (.var 1), (.var 2), (.var 3)])), .ret (.lc (.tup (.of [(.var 5), (.call i__law_warmed (.of [(.var 0), (.var 4), (.var 5)]))])) (.nm 5) (.seq (.idx (.var 0) (.cst (.int 1)))) .none [5])])⟩
def d__law_any_stand (i__law_pick i__law_period : Nat) : Fn := ⟨2, 6, false, (.of [.set (.nm 2) (.bi .tuple (.of [(.lc (.call i__law_pick (.of [(.var 0), (.bi .len (.of [(.idx (.var 5) (.cst (.int 3)))]))])) (.nm 5) (.seq (.idx (.var 1) (.cst (.int 2)))) .none [5])])), .par [3, 4] (.of [(.call i__law_pick (.of [(.var 0), (.bin .add (.bin .mul (.cst (.int 2)) (.idx (.idx (.var 1) (.cst (.int 0))) (.cst (.int 0)))) (.cst (.int 1)))])), (.call i__law_pick (.of [(.var 0), (.call i__law_period (.of [(.var 1)]))]))]), .ret (.tup (.of [(.var 3), (.cmp .eq (.call i__law_pick (.of [(.var 0), (.cst (.int 2))])) (.cst (.int 0))), (.cmp .eq (.call i__law_pick (.of [(.var 0), (.cst (.int 2))])) (.cst (.int 0))), (.var 4), (.var 2)]))])⟩
def d_law_k08 (i__law_deck i__law_house i__law_any_stand i__law_pick i__law_chosen i__law_same i_choices i__law_outs : Nat) : Fn := ⟨1, 12, false, (.of [.for_ (.nm 1) (.seq (.frz (.sl (.adds (.frz (.lst (.of [(.cst (.int 0))]))) 0) .none (.some (.cst (.int 10)))))) (.of [.set (.nm 2) (.call i__law_deck (.of [(.var 1), (.cst (.int 8))])), .set (.nm 3) (.call i__law_house (.of [(.var 2), (.cst (.int 4)), (.cst (.int 3))])), .for_ (.nm 4) (.rng1 (.cst (.int 8))) (.of [.par [9, 10] (.of [(.call i__law_any_stand (.of [(.var 2), (.var 3)])), (.call i__law_pick (.of [(.var 2), (.cst (.int 2))]))]), .set (.nm 7) (.call i__law_chosen (.of [(.var 3), (.var 10), (.var 9)])), .ite (.nt (.call i__law_same (.of [(.call i_choices (.of [(.var 3), (.var 10), (.var 9)])), (.var 7)]))) (.of [.ret (.cst (.bool false))]) (.of []), .for_ (.nm 8) (.seq (.frz (.lst (.of [(.cst (.str "")), (.cst (.str "off")), (.cst (.str "on")), (.cst (.str "open")), (.cst (.str "shut")), (.cst (.str "On")), (.cst .none), (.cst (.int 0)), (.tup (.of [(.cst (.str "on"))]))])))) (.of [.set (.nm 11) (.cst (.str "deed +")), .ite (.cmp .isin (.var 8) (.var 7)) (.of [.set (.nm 11) (.tup (.of [(.cst (.str "told")), (.call i__law_outs (.of [(.var 3), (.var 10), (.var 9), (.var 8)]))]))]) (.of []), .ite (.nt (.call i__law_same (.of [(.tryc 24 (.of [(.var 3), (.var 10), (.var 9), (.var 8)])), (.var 11)]))) (.of [.ret (.cst (.bool false))]) (.of [])])]), .set (.nm 5) (.frz (.lst (.of [(.cst .none), (.sl (.var 9) .none (.some (.cst (.int 4)))), (.bi .list (.of [(.var 9)])), (.bin .add (.tup (.of [(.bin .add (.bin .mul (.cst (.int 2)) (.idx (.idx (.var 3) (.cst (.int 0))) (.cst (.int 0)))) (.cst (.int 1)))])) (.sl (.var 9) (.some (.cst (.int 1))) .none)), (.bin .add (.tup (.of [(.neg (.cst (.int 1)))])) (.sl (.var 9) (.some (.cst (.int 1))) .none))]))), .set (.nm 5) (.frz (.bin .add (.var 5) (.lst (.of [(.bin .add (.sl (.var 9) .none (.some (.cst (.int 3)))) (.tup (.of [(.cst (.int 2)), (.idx (.var 9) (.cst (.int 4)))]))), (.bin .add (.sl (.var 9) .none (.some (.cst (.int 4)))) (.tup (.of [(.tup (.of [(.cst (.int 3)), (.cst (.int 0))]))]))), (.bin .add (.bin .add (.sl (.var 9) .none (.some (.cst (.int 1)))) (.tup (.of [(.cst (.int 1))]))) (.sl (.var 9) (.some (.cst (.int 2))) .none))])))), .for_ (.nm 6) (.seq (.frz (.bin .add (.var 5) (.lst (.of [(.bin .add (.sl (.var 9) .none (.some (.cst (.int 4)))) (.tup (.of [(.tup (.of [(.cst (.int 0))]))]))), (.bin .add (.tup (.of [(.cst (.bool true))])) (.sl (.var 9) (.some (.cst (.int 1))) .none))]))))) (.of [.ite (.cmp .ne (.tryc 23 (.of [(.var 3), (.var 10), (.var 6)])) (.cst (.str "stand +"))) (.of [.ret (.cst (.bool false))]) (.of []), .ite (.cmp .ne (.tryc 24 (.of [(.var 3), (.var 10), (.var 6), (.cst .none)])) (.cst (.str "stand +"))) (.of [.ret (.cst (.bool false))]) (.of [])])]), .ret (.cst (.bool true))])⟩

end RF
end
section
set_option Elab.async false
set_option linter.all false
set_option maxRecDepth 100000
/-! What is recognized. -/
namespace RF
open PySem

abbrev Fc := List W → Gs → Out W
def isWithin (x : D) (lo hi : Int) : Bool := match x with
  | .int i => decide (lo ≤ i) && decide (i ≤ hi)
  | _ => false
abbrev S_is_within (c : Fc) : Prop := ∀ x lo hi g, c [.d x, .d (.int lo), .d (.int hi)] g = .ok (.d (.bool (isWithin x lo hi))) g
theorem ev_is_within {C} : S_is_within (callD C d_is_within) := by
  intro x lo hi g
  cases x <;> simp [callD, d_is_within, startE, isWithin, isTy]
  rename_i i
  by_cases h : lo ≤ i <;> simp [h]

def isWord (x : D) (ws : List D) : Bool := match x with
  | .str s => ws.any fun y => PyData.eqv y (.str s)
  | _ => false
abbrev S_is_word (c : Fc) : Prop := ∀ x ws g, c [.d x, .d (.tuple ws)] g = .ok (.d (.bool (isWord x ws))) g
theorem ev_is_word {C} : S_is_word (callD C d_is_word) := by
  intro x ws g
  cases x <;> simp [callD, d_is_word, startE, isWord, isTy, PyData.depth]

def deedsD : List D := [.str "off", .str "on", .str "open", .str "shut"]
def isTries : D → Bool
  | .tuple xs => decide (xs.length ≤ 2) && (xs.all (fun x => isWord x deedsD) && (match xs with
    | [a, b] => !PyData.eqv a b
    | _ => true))
  | _ => false
abbrev S_is_tries (c : Fc) : Prop := ∀ x g, c [.d x] g = .ok (.d (.bool (isTries x))) g
theorem isWord_depth {x : D} {ws : List D} (h : isWord x ws = true) : x.depth = 0 := by
  cases x <;> simp [isWord] at h
  rfl
theorem ev_is_tries {C i1} (h1 : S_is_word (C i1)) : S_is_tries (callD C (d_is_tries i1)) := by
  intro x g
  cases x <;> simp [callD, d_is_tries, startE, isTries, isTy]
  rename_i xs
  by_cases h2 : (2 : Int) < xs.length
  · simp [h2]
    omega
  · have h3 : xs.length ≤ 16777216 := by omega
    simp only [h2, h3]
    simp
    rw [lc_map (fun x => .bool (isWord x deedsD)) fun x _ => ⟨_, rfl, by simp [h1, deedsD]⟩]
    simp
    cases h4 : xs.all fun x => isWord x deedsD with
    | false => simp
    | true =>
      have h4' := List.all_eq_true.mp h4
      match xs, h2, h4' with
      | [], _, _ => simp
      | [a], _, _ => simp
      | [a, b], _, h4' =>
        have : depthOk a b = true := depthOk_l (by rw [isWord_depth (h4' a (by simp))]; decide)
        simp [this]
      | a :: b :: c :: r, h2, _ => simp at h2; omega

def isLine (x : D) (many : Int) : Bool := match x with
  | .tuple [a, b] => isTries a && isWithin b 0 (many - 1)
  | _ => false
abbrev S_is_line (c : Fc) : Prop := ∀ x many g, c [.d x, .d (.int many)] g = .ok (.d (.bool (isLine x many))) g
theorem ev_is_line {C i1 i2} (h1 : S_is_tries (C i1)) (h2 : S_is_within (C i2)) : S_is_line (callD C (d_is_line i1 i2)) := by
  intro x many g
  cases x <;> simp [callD, d_is_line, startE, isLine, isTy]
  rename_i xs
  match xs with
  | [] => simp
  | [a] => simp
  | [a, b] => simp [h1]; cases isTries a <;> simp [h2]
  | a :: b :: c :: r => 
    have : ¬ ((r.length : Int) + 1 + 1 + 1 = 2) := by omega
    simp [this]
def isPage (x : D) (many : Int) : Bool := match x with
  | .tuple xs => decide (xs.length = 3) && xs.all (fun x => isLine x many)
  | _ => false
def isBook (x : D) : Bool := match x with
  | .tuple xs => (decide (1 ≤ xs.length) && decide (xs.length ≤ 3)) && xs.all (fun x => isPage x xs.length)
  | _ => false
abbrev S_is_book_value (c : Fc) : Prop := ∀ x g, c [.d x] g = .ok (.d (.bool (isBook x))) g
theorem ev_is_book_value {C i1} (h1 : S_is_line (C i1)) : S_is_book_value (callD C (d_is_book_value i1)) := by
  intro x g
  cases x <;> simp [callD, d_is_book_value, startE, isBook, isTy]
  rename_i xs
  by_cases h2 : 1 ≤ xs.length
  · have h2' : (1 : Int) ≤ xs.length := by omega
    by_cases h3 : xs.length ≤ 3
    · have h3' : (xs.length : Int) ≤ 3 := by omega
      simp [h2', h3', h2, h3]
      generalize hr : forRun C _ _ _ _ _ = r
      rcases search_r hr (fun x => isPage x xs.length) (fun env g' => (∃ o, env = [some (.d (.tuple xs)), o, none]) ∧ Jk g g') (fun g' => Jk g g') (.d (.bool false)) ⟨⟨_, rfl⟩, Jk.rfl' g⟩ (by
        rintro x - env g' ⟨⟨o, rfl⟩, j⟩
        refine ⟨[some (.d (.tuple xs)), some (.d x), none], by simp, ?_⟩
        cases x <;> simp [isPage, isTy, j, -List.all_eq_true, -List.all_eq_false]
        rename_i ys
        by_cases h5 : ys.length = 3
        · have h5' : (ys.length : Int) = 3 := by omega
          simp [h5, h5', -List.all_eq_true, -List.all_eq_false]
          rw [lc_map (fun x => .bool (isLine x xs.length)) fun x _ => ⟨_, rfl, by simp [h1]⟩]
          simp [-List.all_eq_true, -List.all_eq_false]
          generalize ys.all _ = bb
          cases bb <;> simp [j.app, and_assoc]
        · have h5' : ¬ (ys.length : Int) = 3 := by omega
          simp [h5, h5', j]) with ⟨hp, env', g', rfl, ⟨o, rfl⟩, j⟩ | ⟨hp, g', rfl, j⟩
      · simp [hp, j.take]
      · simp [hp, j.take]
    · have h3' : ¬ (xs.length : Int) ≤ 3 := by omega
      simp [h2', h3', h2, h3]
  · have h2' : ¬ (1 : Int) ≤ xs.length := by omega
    simp [h2', h2]
def isLosses : D → Bool
  | .tuple ls => decide (ls.length = 4) && ls.all (fun x => isWithin x 0 3)
  | _ => false
def isRoom (x : D) : Bool := match x with
  | .tuple [a, b, c] => isWithin a 2 4 && (isWithin b 1 3 && isLosses c)
  | _ => false
abbrev S_is_room_value (c : Fc) : Prop := ∀ x g, c [.d x] g = .ok (.d (.bool (isRoom x))) g
theorem ev_is_room_value {C i1} (h1 : S_is_within (C i1)) : S_is_room_value (callD C (d_is_room_value i1)) := by
  intro x g
  cases x <;> simp [callD, d_is_room_value, startE, isRoom, isTy]
  rename_i xs
  match xs with
  | [] => simp
  | [a] => simp
  | [a, b] => simp
  | [a, b, c] =>
    simp [h1]
    cases h2 : isWithin a 2 4 <;> simp
    simp [h1]
    cases h3 : isWithin b 1 3 <;> simp
    · cases c <;> simp [isTy, isLosses]
      rename_i ls
      by_cases h4 : ls.length = 4
      · have h4' : (ls.length : Int) = 4 := by omega
        simp [h4, h4']
        rw [lc_map (fun x => .bool (isWithin x 0 3)) fun x _ => ⟨_, rfl, by simp [h1]⟩]
        simp
      · have h4' : ¬ (ls.length : Int) = 4 := by omega
        simp [h4, h4']
  | a :: b :: c :: d :: r => 
    have : ¬ ((r.length : Int) + 1 + 1 + 1 + 1 = 3) := by omega
    simp [this]
def intOf : D → Int
  | .int i => i
  | _ => 0
def isPerson (x : D) (top : Int) : Bool := match x with
  | .tuple [a, b, c, d] => isWithin a 1 2 && (isWithin b 0 top && (isWithin c (intOf b) top && isBook d))
  | _ => false
abbrev S_is_person_value (c : Fc) : Prop := ∀ x top g, c [.d x, .d (.int top)] g = .ok (.d (.bool (isPerson x top))) g
theorem isWithin_int {x : D} {lo hi : Int} (h : isWithin x lo hi = true) : ∃ i, x = .int i ∧ lo ≤ i ∧ i ≤ hi := by
  cases x <;> simp [isWithin] at h
  exact ⟨_, rfl, h⟩
theorem ev_is_person_value {C i1 i2} (h1 : S_is_within (C i1)) (h2 : S_is_book_value (C i2)) : S_is_person_value (callD C (d_is_person_value i1 i2)) := by
  intro x top g
  cases x <;> simp [callD, d_is_person_value, startE, isPerson, isTy]
  rename_i xs
  match xs with
  | [] => simp
  | [a] => simp
  | [a, b] => simp
  | [a, b, c] => simp
  | [a, b, c, d] =>
    simp [h1]
    cases h3 : isWithin a 1 2 <;> simp
    simp [h1]
    cases h4 : isWithin b 0 top <;> simp
    obtain ⟨i, rfl, _, _⟩ := isWithin_int h4
    simp [h1, intOf]
    cases h5 : isWithin c i top <;> simp
    simp [h2]
  | a :: b :: c :: d :: e :: r => 
    have : ¬ ((r.length : Int) + 1 + 1 + 1 + 1 + 1 = 4) := by omega
    simp [this]
def weathersD : List D := [.str "cold", .str "mild"]
def isWeathers (x : D) : Bool := match x with
  | .tuple [a] => isWord a weathersD
  | .tuple [a, b] => PyData.eqv a (.str "cold") && PyData.eqv b (.str "mild")
  | _ => false
def isPeople (x : D) (top : Int) : Bool := match x with
  | .tuple [a, b] => isPerson a top && isPerson b top
  | _ => false
def topOf : D → Int
  | .tuple (a :: _) => intOf a
  | _ => 0
def isHouse (x : D) : Bool := match x with
  | .tuple [a, b, c] => isRoom a && (isWeathers b && isPeople c (topOf a))
  | _ => false
abbrev S_is_house_value (c : Fc) : Prop := ∀ x g, c [.d x] g = .ok (.d (.bool (isHouse x))) g
theorem isRoom_form {x : D} (h : isRoom x = true) : ∃ i j ls, x = .tuple [.int i, .int j, .tuple ls] ∧ 2 ≤ i ∧ i ≤ 4 ∧ 1 ≤ j ∧ j ≤ 3 ∧ ls.length = 4 ∧ ∀ y ∈ ls, isWithin y 0 3 = true := by
  unfold isRoom at h
  split at h
  · rename_i a b c
    simp only [Bool.and_eq_true] at h
    obtain ⟨h1, h2, h3⟩ := h
    obtain ⟨i, rfl, _, _⟩ := isWithin_int h1
    obtain ⟨j, rfl, _, _⟩ := isWithin_int h2
    cases c <;> simp [isLosses] at h3
    rename_i ls
    obtain ⟨h3, h4⟩ := h3
    exact ⟨i, j, ls, rfl, by omega, by omega, by omega, by omega, h3, h4⟩
  · cases h
theorem isWord_weathers {x : D} (h : isWord x weathersD = true) : x = .str "cold" ∨ x = .str "mild" := by
  cases x <;> simp [isWord, weathersD] at h
  rcases h with h | h <;> simp [h]
theorem isWord_cold : isWord (.str "cold") weathersD = true := by simp [isWord, weathersD]
theorem isWord_mild : isWord (.str "mild") weathersD = true := by simp [isWord, weathersD]
theorem biW_sorted1 (g : Gs) (s : Str) : biW .sortedSet g [.tuple [.str s]] = newL g [.str s] := rfl
def S2 (s t : Str) : List Str := sortS (dedupS [s, t])
theorem biW_sorted2 (g : Gs) (s t : Str) : biW .sortedSet g [.tuple [.str s, .str t]] = newL g ((S2 s t).map .str) := rfl
theorem S2_cm : S2 "cold" "mild" = [("cold" : Str), ("mild" : Str)] := by decide +kernel
theorem S2_mc : S2 "mild" "cold" = [("cold" : Str), ("mild" : Str)] := by decide +kernel
theorem S2_cc : S2 "cold" "cold" = [("cold" : Str)] := by decide +kernel
theorem S2_mm : S2 "mild" "mild" = [("mild" : Str)] := by decide +kernel
theorem ev_is_house_value {C i1 i2 i3} (h1 : S_is_room_value (C i1)) (h2 : S_is_word (C i2)) (h3 : S_is_person_value (C i3)) : S_is_house_value (callD C (d_is_house_value i1 i2 i3)) := by
  intro x g
  cases x <;> simp [callD, d_is_house_value, startE, isHouse, isTy]
  rename_i xs
  match xs with
  | [] => simp
  | [a] => simp
  | [a, b] => simp
  | [a, b, c] =>
    simp [h1]
    cases h4 : isRoom a <;> simp
    obtain ⟨top, heat, ls, rfl, _⟩ := isRoom_form h4
    simp [topOf, intOf]
    cases b <;> simp [isWeathers, isTy]
    rename_i ws
    have split : isWeathers (.tuple ws) = false ∨ ws = [.str "cold"] ∨ ws = [.str "mild"] ∨ ws = [.str "cold", .str "mild"] := by
      match ws with
      | [] => exact .inl rfl
      | [a] =>
        cases h : isWord a weathersD with
        | false => exact .inl h
        | true => rcases isWord_weathers h with rfl | rfl <;> simp
      | [a, b] =>
        cases h : isWeathers (.tuple [a, b]) with
        | false => exact .inl rfl
        | true =>
          simp only [isWeathers, Bool.and_eq_true] at h
          obtain ⟨h1, h2⟩ := h
          cases a <;> simp [PyData.eqv] at h1
          cases b <;> simp [PyData.eqv] at h2
          simp [h1, h2]
      | a :: b :: d :: r => exact .inl rfl
    rcases split with h | rfl | rfl | rfl
    · have : (isWeathers (.tuple ws) && isPeople c top) = false := by rw [h]; rfl
      simp only [isWeathers] at this
      rw [this]
      match ws, h with
      | [], _ => simp
      | a :: b :: d :: r, _ =>
        have : ¬ ((r.length : Int) + 1 + 1 + 1 ≤ 2) := by omega
        have h1' : (1 : Int) ≤ (r.length : Int) + 1 + 1 + 1 := by omega
        simp [this, h1']
      | [a], h =>
        simp
        rw [lc_map (fun x => .bool (isWord x weathersD)) fun x _ => ⟨_, rfl, by simp [h2, weathersD]⟩]
        have h : isWord a weathersD = false := h
        simp [h]
      | [a, b], h =>
        simp
        rw [lc_map (fun x => .bool (isWord x weathersD)) fun x _ => ⟨_, rfl, by simp [h2, weathersD]⟩]
        cases h6 : isWord a weathersD with
        | false => simp [h6]
        | true => cases h7 : isWord b weathersD with
          | false => simp [h6, h7]
          | true =>
            rcases isWord_weathers h6 with rfl | rfl <;> rcases isWord_weathers h7 with rfl | rfl <;> simp [isWeathers] at h
            · simp [h6, biW_sorted2, S2_cc, depthOk, PyData.depth, PyData.depthAll]
            · simp [h6, h7, biW_sorted2, S2_mc, depthOk, PyData.depth, PyData.depthAll]
            · simp [h6, biW_sorted2, S2_mm, depthOk, PyData.depth, PyData.depthAll]
    all_goals
      simp
      rw [lc_map (fun x => .bool (isWord x weathersD)) fun x _ => ⟨_, rfl, by simp [h2, weathersD]⟩]
      simp [isWord_cold, isWord_mild, biW_sorted1, biW_sorted2, S2_cm, depthOk, PyData.depth, PyData.depthAll]
      cases c <;> simp [isTy, isPeople]
      rename_i cs
      match cs with
      | [] => simp
      | [a] => simp
      | [a, b] =>
        simp
        rw [lc_map (fun x => .bool (isPerson x top)) fun x _ => ⟨_, rfl, by simp [h3]⟩]
        simp
      | a :: b :: d :: r =>
        have : ¬ ((r.length : Int) + 1 + 1 + 1 = 2) := by omega
        simp [this]
  | a :: b :: c :: d :: r => 
    have : ¬ ((r.length : Int) + 1 + 1 + 1 + 1 = 3) := by omega
    simp [this]
end RF
end
section
set_option Elab.async false
set_option linter.all false
set_option maxRecDepth 100000
/-! Fractions, starts. -/
namespace RF
open PySem

abbrev S_divisor (c : Fc) : Prop := ∀ (a b : Int) g, 0 ≤ a → 0 ≤ b → b < 4611686018427387904 → c [.d (.int a), .d (.int b)] g = .ok (.d (.int (Int.gcd a b))) g
theorem gcd_step {a b : Int} : Int.gcd b (a % b) = Int.gcd a b := by
  have e : a % b = a + (-(a / b)) * b := by
    have := Int.emod_add_mul_ediv a b
    rw [Int.neg_mul, Int.mul_comm (a / b) b]
    omega
  rw [e, Int.gcd_add_mul_right_right, Int.gcd_comm]
theorem ev_divisor {C} : S_divisor (callD C d_divisor) := by
  intro a b g ha hb hb2
  simp [callD, d_divisor, startE]
  generalize hr : whlRun C _ _ _ _ _ = r
  obtain ⟨env', g', g'', rfl, ⟨a', b', rfl, hg, h1, h2, h3, rfl⟩, he, ⟨_, _, _, _, _, _, _, rfl⟩⟩ := whl_r hr (fun env g1 => ∃ a' b' : Int, env = [some (.d (.int a')), some (.d (.int b'))] ∧ Int.gcd a' b' = Int.gcd a b ∧ 0 ≤ a' ∧ 0 ≤ b' ∧ b' ≤ b ∧ g1 = g) (fun env => match env with
      | [_, some (.d (.int b'))] => b'.toNat
      | _ => 0) ⟨a, b, rfl, rfl, ha, hb, by omega, rfl⟩ (by simp only [turns]; omega) (by
      rintro env g1 ⟨a', b', rfl, hg, h1, h2, h3, rfl⟩
      refine ⟨decide (0 < b'), g1, by simp, fun h => ?_, fun _ => ⟨a', b', rfl, hg, h1, h2, h3, rfl⟩⟩
      have h : 0 < b' := by simpa using h
      simp [binW_mod h]
      have := Int.emod_lt_of_pos a' h
      have := Int.emod_nonneg a' (b := b') (by omega)
      refine ⟨_, _, ⟨rfl, rfl⟩, ⟨_, _, rfl, by rw [gcd_step, hg], h2, by omega, by omega, rfl⟩, ?_⟩
      show ((a' % b').toNat : Int) < b'
      omega)
  simp at he
  have : b' = 0 := by omega
  subst this
  simp
  rw [← hg]
  simp; omega
/-- a fraction of numbers -/
def frD (a b : Int) : D := .tuple [.int a, .int b]
def lowA (a b : Int) : Int := a / (Int.gcd a b : Int)
def lowB (a b : Int) : Int := b / (Int.gcd a b : Int)
abbrev S_lowest (c : Fc) : Prop := ∀ (a b : Int) g, 0 ≤ a → 0 < b → b < 4611686018427387904 → c [.d (.int a), .d (.int b)] g = .ok (.d (frD (lowA a b) (lowB a b))) g
theorem log2_lt {n m : Nat} (h : n < 2 ^ m) : n.log2 < m ∨ n = 0 := by
  by_cases h0 : n = 0
  · exact .inr h0
  · exact .inl (Nat.log2_lt h0 |>.mpr h)
theorem divOk_of {b : Int} (h : 0 < b) (k : b < 4611686018427387904) : divOk b = true := by
  simp only [divOk, Bool.and_eq_true, decide_eq_true_eq]
  refine ⟨h, ?_⟩
  rcases log2_lt (n := b.natAbs) (m := 62) (by omega) with h | h <;> omega
theorem mulOk_of {a b : Int} (h : a.natAbs < 2 ^ 400000) (k : b.natAbs < 2 ^ 400000) : mulOk a b = true := by
  simp only [mulOk, decide_eq_true_eq]
  rcases log2_lt h with h | h <;> rcases log2_lt k with k | k
  · omega
  · rw [k]; simp; omega
  · rw [h]; simp; omega
  · rw [h, k]; simp
theorem small {a : Int} (h : -10 ^ 100 ≤ a) (k : a ≤ 10 ^ 100) : a.natAbs < 2 ^ 400000 := by
  have h1 : a.natAbs ≤ 10 ^ 100 := by omega
  have h2 : (10 : Nat) ^ 100 < 2 ^ 400 := by decide +kernel
  have h3 : (2 : Nat) ^ 400 ≤ 2 ^ 400000 := Nat.pow_le_pow_right (by omega) (by omega)
  omega
theorem gcd_pos {a b : Int} (h : 0 < b) : (0 : Int) < (Int.gcd a b : Int) := by
  have : Int.gcd a b ≠ 0 := by
    intro z
    have := (Int.gcd_eq_zero_iff.mp z).2
    omega
  omega
theorem gcd_le {a b : Int} (h : 0 < b) : (Int.gcd a b : Int) ≤ b := Int.gcd_le_right a h
theorem ev_lowest {C i1} (h1 : S_divisor (C i1)) : S_lowest (callD C (d_lowest i1)) := by
  intro a b g ha hb hb2
  have h2 := divOk_of (gcd_pos (a := a) hb) (by have := gcd_le (a := a) hb; omega)
  simp [callD, d_lowest, startE, h1 a b g ha (by omega) hb2, binW_fdiv h2, frD, lowA, lowB]
def isWarmth (top : Int) (x : D) : Bool := match x with
  | .tuple [a, b] => isWithin a 0 1000000000000 && (isWithin b 1 1000000000000 && (decide (Int.gcd (intOf a) (intOf b) = 1) && decide (intOf a ≤ top * intOf b)))
  | _ => false
abbrev S_is_warmth (c : Fc) : Prop := ∀ (top : Int) (r : List D) x g, 0 ≤ top → top ≤ 4 → c [.d (.tuple (.int top :: r)), .d x] g = .ok (.d (.bool (isWarmth top x))) g
theorem pow_ok (g : Gs) (a b : Int) (h : powOk a b = true) : binW .pow g (.int a) (.int b) = .ok (.d (.int (a ^ b.toNat))) g := by
  simp [binW, binD, h]
@[simp] theorem pow_12 (g : Gs) : binW .pow g (.int 10) (.int 12) = .ok (.d (.int 1000000000000)) g := rfl
@[simp] theorem pow_9 (g : Gs) : binW .pow g (.int 10) (.int 9) = .ok (.d (.int 1000000000)) g := rfl
@[simp] theorem pow_18 (g : Gs) : binW .pow g (.int 10) (.int 18) = .ok (.d (.int 1000000000000000000)) g := rfl
@[simp] theorem pow_6 (g : Gs) : binW .pow g (.int 10) (.int 6) = .ok (.d (.int 1000000)) g := rfl
theorem ev_is_warmth {C i1 i2} (h1 : S_is_within (C i1)) (h2 : S_divisor (C i2)) : S_is_warmth (callD C (d_is_warmth i1 i2)) := by
  intro top r x g ht ht2
  cases x <;> simp [callD, d_is_warmth, startE, isWarmth, isTy]
  rename_i xs
  match xs with
  | [] => simp
  | [a] => simp
  | [a, b] =>
    simp [h1]
    cases h3 : isWithin a 0 1000000000000 <;> simp
    simp [h1]
    cases h4 : isWithin b 1 1000000000000 <;> simp
    obtain ⟨i, rfl, _, _⟩ := isWithin_int h3
    obtain ⟨j, rfl, _, _⟩ := isWithin_int h4
    simp [h2 i j g (by omega) (by omega) (by omega), intOf]
    have : ((Int.gcd i j : Int) = 1) ↔ Int.gcd i j = 1 := by omega
    simp only [this]
    by_cases h5 : Int.gcd i j = 1
    · have := mulOk_of (a := top) (b := j) (small (by omega) (by omega)) (small (by omega) (by omega))
      simp [h5, binW_mul this]
      congr
    · simp [h5]
  | a :: b :: c :: r =>
    have : ¬ ((r.length : Int) + 1 + 1 + 1 = 2) := by omega
    simp [this]
def isBool : D → Bool
  | .bool _ => true
  | _ => false
def isStart (top : Int) (x : D) : Bool := match x with
  | .tuple [a, b, c] => isWarmth top a && (isBool b && isBool c)
  | _ => false
abbrev S_is_start_value (c : Fc) : Prop := ∀ (top : Int) (r r' : List D) x g, 0 ≤ top → top ≤ 4 → c [.d (.tuple (.tuple (.int top :: r) :: r')), .d x] g = .ok (.d (.bool (isStart top x))) g
theorem isTy_bool (x : D) : isTy .bool x = isBool x := by cases x <;> rfl
theorem ev_is_start_value {C i1} (h1 : S_is_warmth (C i1)) : S_is_start_value (callD C (d_is_start_value i1)) := by
  intro top r r' x g ht ht2
  cases x <;> simp [callD, d_is_start_value, startE, isStart, isTy]
  rename_i xs
  match xs with
  | [] => simp
  | [a] => simp
  | [a, b] => simp
  | [a, b, c] =>
    simp [h1 _ _ _ _ ht ht2]
    cases isWarmth top a <;> simp [isTy_bool]
    cases isBool b <;> simp
  | a :: b :: c :: d :: r =>
    have : ¬ ((r.length : Int) + 1 + 1 + 1 + 1 = 3) := by omega
    simp [this]
def levelOf (a b : Int) : Int := 2 * (a / b) + if a = a / b * b then 0 else 1
abbrev S_level_of (c : Fc) : Prop := ∀ (a b : Int) g, 0 ≤ a → a ≤ 10 ^ 30 → 0 < b → b < 10 ^ 15 → c [.d (frD a b)] g = .ok (.d (.int (levelOf a b))) g
theorem ev_level_of {C} : S_level_of (callD C d_level_of) := by
  intro a b g h1 h2 h3 h4
  have k1 := divOk_of h3 (by omega)
  have q0 : 0 ≤ a / b := Int.ediv_nonneg h1 (by omega)
  have q1 : a / b ≤ a := Int.ediv_le_self b h1
  have k2 := mulOk_of (a := a / b) (b := b) (small (by omega) (by omega)) (small (by omega) (by omega))
  have k3 := mulOk_of (a := 2) (b := a / b) (small (by omega) (by omega)) (small (by omega) (by omega))
  simp [callD, d_level_of, startE, frD, binW_fdiv k1, binW_mul k2, binW_mul k3, levelOf]
abbrev S_need_house (c : Fc) : Prop := ∀ x g, c [.d x] g = if isHouse x then .ok (.d .none) g else .exc ⟨"InvalidHouse", none⟩ g
theorem ev_need_house {C i1} (h1 : S_is_house_value (C i1)) : S_need_house (callD C (d_need_house i1)) := by
  intro x g
  simp [callD, d_need_house, startE, h1]
  cases isHouse x <;> simp
abbrev S_need_start (c : Fc) : Prop := ∀ (top : Int) (r r' : List D) x g, 0 ≤ top → top ≤ 4 → c [.d (.tuple (.tuple (.int top :: r) :: r')), .d x] g = if isStart top x then .ok (.d .none) g else .exc ⟨"InvalidStart", none⟩ g
theorem ev_need_start {C i1} (h1 : S_is_start_value (C i1)) : S_need_start (callD C (d_need_start i1)) := by
  intro top r r' x g ht ht2
  simp [callD, d_need_start, startE, h1 _ _ _ _ _ ht ht2]
  cases isStart top x <;> simp
end RF
end
section
set_option Elab.async false
set_option linter.all false
set_option maxRecDepth 100000
/-! Houses, stands, ticks. -/
namespace RF
open PySem

inductive Deed where | off | on | opn | shut
  deriving DecidableEq
def Deed.str : Deed → Str
  | .off => "off" | .on => "on" | .opn => "open" | .shut => "shut"
def Deed.d (x : Deed) : D := .str x.str
/-- a deed or none -/
def oS : Option Deed → Str
  | none => ""
  | some x => x.str
inductive Wth where | cold | mild
  deriving DecidableEq
def Wth.str : Wth → Str
  | .cold => "cold" | .mild => "mild"
def Wth.d (x : Wth) : D := .str x.str
structure Line where
  tr : List Deed
  to : Nat
def Line.d (l : Line) : D := .tuple [.tuple (l.tr.map Deed.d), .int l.to]
structure Page where
  c : Line
  h : Line
  w : Line
def Page.d (p : Page) : D := .tuple [p.c.d, p.h.d, p.w.d]
abbrev Book := List Page
def bookD (b : Book) : D := .tuple (b.map Page.d)
structure Pers where
  beat : Int
  cold : Int
  hot : Int
  book : Book
def Pers.d (p : Pers) : D := .tuple [.int p.beat, .int p.cold, .int p.hot, bookD p.book]
structure House where
  top : Int
  heat : Int
  l0 : Int
  l1 : Int
  l2 : Int
  l3 : Int
  ws : List Wth
  q0 : Pers
  q1 : Pers
def House.d (h : House) : D := .tuple [.tuple [.int h.top, .int h.heat, .tuple [.int h.l0, .int h.l1, .int h.l2, .int h.l3]], .tuple (h.ws.map Wth.d), .tuple [h.q0.d, h.q1.d]]
structure Line.Ok (n : Nat) (l : Line) : Prop where
  two : l.tr.length ≤ 2
  nd : l.tr.Nodup
  to : l.to < n
structure Page.Ok (n : Nat) (p : Page) : Prop where
  c : p.c.Ok n
  h : p.h.Ok n
  w : p.w.Ok n
structure Book.Ok (b : Book) : Prop where
  lo : 1 ≤ b.length
  hi : b.length ≤ 3
  pg : ∀ p ∈ b, p.Ok b.length
structure Pers.Ok (top : Int) (p : Pers) : Prop where
  b1 : 1 ≤ p.beat
  b2 : p.beat ≤ 2
  c0 : 0 ≤ p.cold
  c1 : p.cold ≤ p.hot
  c2 : p.hot ≤ top
  bk : Book.Ok p.book
structure House.Ok (h : House) : Prop where
  t2 : 2 ≤ h.top
  t4 : h.top ≤ 4
  h1 : 1 ≤ h.heat
  h3 : h.heat ≤ 3
  a0 : 0 ≤ h.l0 ∧ h.l0 ≤ 3
  a1 : 0 ≤ h.l1 ∧ h.l1 ≤ 3
  a2 : 0 ≤ h.l2 ∧ h.l2 ≤ 3
  a3 : 0 ≤ h.l3 ∧ h.l3 ≤ 3
  ws : h.ws = [.cold] ∨ h.ws = [.mild] ∨ h.ws = [.cold, .mild]
  q0 : h.q0.Ok h.top
  q1 : h.q1.Ok h.top
theorem isWithin_i {i lo hi : Int} (h : lo ≤ i) (k : i ≤ hi) : isWithin (.int i) lo hi = true := by simp [isWithin, h, k]
theorem isWord_deed (x : Deed) : isWord x.d deedsD = true := by cases x <;> simp [isWord, Deed.d, Deed.str, deedsD]
theorem Deed.str_inj {x y : Deed} : x.str = y.str ↔ x = y := by cases x <;> cases y <;> simp [Deed.str]
theorem isTries_ok {ds : List Deed} (h : ds.length ≤ 2) (k : ds.Nodup) : isTries (.tuple (ds.map Deed.d)) = true := by
  match ds, h, k with
  | [], _, _ => rfl
  | [a], _, _ => simp [isTries, isWord_deed]
  | [a, b], _, k =>
    have : ¬ a = b := by simpa using k
    simp [isTries, isWord_deed]
    simp [Deed.d, Deed.str_inj, this]
  | a :: b :: c :: r, h, _ => simp at h
theorem isLine_ok {n : Nat} {l : Line} (h : l.Ok n) : isLine l.d n = true := by
  have := h.to
  simp [isLine, Line.d, isTries_ok h.two h.nd, isWithin]
  omega
theorem isPage_ok {n : Nat} {p : Page} (h : p.Ok n) : isPage p.d n = true := by
  simp [isPage, Page.d, isLine_ok h.c, isLine_ok h.h, isLine_ok h.w]
theorem isBook_ok {b : Book} (h : Book.Ok b) : isBook (bookD b) = true := by
  have h1 := h.lo
  have h2 := h.hi
  simp [isBook, bookD]
  exact ⟨⟨by omega, h2⟩, fun p hp => isPage_ok (h.pg p hp)⟩
theorem isPerson_ok {top : Int} {p : Pers} (h : p.Ok top) : isPerson p.d top = true := by
  have h1 := h.b1; have h2 := h.b2; have h3 := h.c0; have h4 := h.c1; have h5 := h.c2
  simp [isPerson, Pers.d, isBook_ok h.bk, isWithin, intOf]
  exact ⟨⟨h1, h2⟩, ⟨h3, by omega⟩, decide_eq_true h4, h5⟩
theorem isHouse_ok {h : House} (k : h.Ok) : isHouse h.d = true := by
  have h1 := k.t2; have h2 := k.t4; have h3 := k.h1; have h4 := k.h3
  obtain ⟨a1, a2⟩ := k.a0; obtain ⟨a3, a4⟩ := k.a1; obtain ⟨a5, a6⟩ := k.a2; obtain ⟨a7, a8⟩ := k.a3
  simp [isHouse, House.d, isRoom, isLosses, isWithin, isPeople, topOf, intOf, isPerson_ok k.q0, isPerson_ok k.q1, *]
  rcases k.ws with e | e | e <;> rw [e] <;> simp [isWeathers, Wth.d, Wth.str, isWord_cold, isWord_mild]

/-! ### what comes to pass -/
structure Stand where
  level : Int
  heater : Bool
  window : Bool
  phase : Int
  p0 : Nat
  p1 : Nat
  deriving DecidableEq
def Stand.d (s : Stand) : D := .tuple [.int s.level, .bool s.heater, .bool s.window, .int s.phase, .tuple [.int s.p0, .int s.p1]]
def wI (who : Bool) : Int := if who then 1 else 0
def House.per (h : House) (who : Bool) : Pers := if who then h.q1 else h.q0
def House.period (h : House) : Int := max h.q0.beat h.q1.beat
abbrev S_period_of (c : Fc) : Prop := ∀ (h : House) g, c [.d h.d] g = .ok (.d (.int h.period)) g
theorem ev_period_of {C} : S_period_of (callD C d_period_of) := by
  intro h g
  simp [callD, d_period_of, startE, House.d, Pers.d, House.period]
/-- the stand of a start of level l -/
def Stand.start (l : Int) (he wi : Bool) : Stand := ⟨l, he, wi, 0, 0, 0⟩
def startD (a b : Int) (he wi : Bool) : D := .tuple [frD a b, .bool he, .bool wi]
abbrev S_begun (c : Fc) : Prop := ∀ (x : D) (a b : Int) (he wi : Bool) g, 0 ≤ a → a ≤ 10 ^ 30 → 0 < b → b < 10 ^ 15 → c [.d x, .d (startD a b he wi)] g = .ok (.d (Stand.start (levelOf a b) he wi).d) g
theorem ev_begun {C i1} (h1 : S_level_of (C i1)) : S_begun (callD C (d_begun i1)) := by
  intro x a b he wi g k1 k2 k3 k4
  have := h1 a b g k1 k2 k3 k4
  simp [callD, d_begun, startE, startD, this, Stand.start, Stand.d]
def feel (p : Pers) (level : Int) : Nat := if level < 2 * p.cold then 0 else if level > 2 * p.hot then 1 else 2
abbrev S_feeling_of (c : Fc) : Prop := ∀ (p : Pers) (top level : Int) g, p.Ok top → top ≤ 4 → c [.d p.d, .d (.int level)] g = .ok (.d (.int (feel p level))) g
theorem ev_feeling_of {C} : S_feeling_of (callD C d_feeling_of) := by
  intro p top level g h k
  have h3 := h.c0; have h4 := h.c1; have h5 := h.c2
  have m1 : mulOk 2 p.cold = true := mulOk_of (small (by omega) (by omega)) (small (by omega) (by omega))
  have m2 : mulOk 2 p.hot = true := mulOk_of (small (by omega) (by omega)) (small (by omega) (by omega))
  simp [callD, d_feeling_of, startE, Pers.d, binW_mul m1]
  by_cases c1 : level < 2 * p.cold
  · simp [c1, feel]
  · simp [c1, feel, binW_mul m2]
    by_cases c2 : 2 * p.hot < level <;> simp [c2]
/-- the devices behind a deed -/
def chg (he wi : Bool) : Option Deed → Bool × Bool
  | none => (he, wi)
  | some .on => (true, wi)
  | some .off => (false, wi)
  | some .opn => (he, true)
  | some .shut => (he, false)
def devD (x : Bool × Bool) : D := .tuple [.bool x.1, .bool x.2]
abbrev S_changed (c : Fc) : Prop := ∀ (x : Bool × Bool) (o : Option Deed) g, c [.d (devD x), .d (.str (oS o))] g = .ok (.d (devD (chg x.1 x.2 o))) g
theorem ev_changed {C} : S_changed (callD C d_changed) := by
  intro x o g
  cases o with
  | none => simp [callD, d_changed, startE, devD, oS, chg, PyData.depth]
  | some o => cases o <;> simp [callD, d_changed, startE, devD, oS, chg, Deed.str, PyData.depth]
/-- the first deed of some that changes a device -/
def firstChg (he wi : Bool) (ds : List Deed) : Option Deed := ds.find? fun d => !decide (chg he wi (some d) = (he, wi))
abbrev S_first_change (c : Fc) : Prop := ∀ (x : Bool × Bool) (ds : List Deed) g, ds.length ≤ 2 → c [.d (devD x), .d (.tuple (ds.map Deed.d))] g = .ok (.d (.str (oS (firstChg x.1 x.2 ds)))) g
theorem devD_depth (x : Bool × Bool) : (devD x).depth = 1 := by simp [devD, PyData.depth, PyData.depthAll]
theorem devD_eqv (x y : Bool × Bool) : PyData.eqv (devD x) (devD y) = decide (x = y) := by
  obtain ⟨a, b⟩ := x; obtain ⟨c, d⟩ := y
  cases a <;> cases b <;> cases c <;> cases d <;> simp [devD]
theorem ev_first_change {C i1} (h1 : S_changed (C i1)) : S_first_change (callD C (d_first_change i1)) := by
  intro x ds g hl
  simp [callD, d_first_change, startE, show ds.length ≤ 16777216 by omega]
  rw [lcm_filter (fun d => !decide (chg x.1 x.2 (some d) = (x.1, x.2))) (fun d => d.d) fun d _ => ⟨_, rfl, by
    simp [Deed.d, h1 x (some d), show d.str = oS (some d) from rfl, depthOk_r (y := devD x) (by rw [devD_depth]; decide), devD_eqv], fun _ => by simp⟩]
  simp only [firstChg, ← List.head?_filter]
  simp [-List.head?_filter]
  cases e : ds.filter fun d => !decide (chg x.1 x.2 (some d) = (x.1, x.2)) with
  | nil => simp [oS, depthOk, PyData.depth, PyData.depthAll]
  | cons d r => simp [oS, depthOk, PyData.depth, PyData.depthAll, Deed.d]
abbrev S_looks (c : Fc) : Prop := ∀ (h : House) (s : Stand) (who : Bool) g, h.Ok → c [.d h.d, .d s.d, .d (.int (wI who))] g = .ok (.d (.bool (decide (s.phase % (h.per who).beat = 0)))) g
theorem ev_looks {C} : S_looks (callD C d_looks) := by
  intro h s who g k
  have b0 : 0 < h.q0.beat := by have := k.q0.b1; omega
  have b1 : 0 < h.q1.beat := by have := k.q1.b1; omega
  cases who <;> simp [callD, d_looks, startE, House.d, Stand.d, Pers.d, wI, House.per, binW_mod b0, binW_mod b1]
def Page.at (p : Page) (f : Nat) : Line := if f = 0 then p.c else if f = 1 then p.h else p.w
def Stand.pg (s : Stand) (who : Bool) : Nat := if who then s.p1 else s.p0
structure Stand.Ok (h : House) (s : Stand) : Prop where
  p0 : s.p0 < h.q0.book.length
  p1 : s.p1 < h.q1.book.length
theorem Stand.Ok.pg {h : House} {s : Stand} (k : s.Ok h) (who : Bool) : s.pg who < (h.per who).book.length := by
  cases who
  · exact k.p0
  · exact k.p1
def noLine : Line := ⟨[], 0⟩
def noPage : Page := ⟨noLine, noLine, noLine⟩
def bookAt (b : Book) (i : Nat) : Page := (b[i]?).getD noPage
theorem bookAt_some {b : Book} {i : Nat} (h : i < b.length) : b[i]? = some (bookAt b i) := by
  simp [bookAt, List.getElem?_eq_getElem h]
theorem bookAt_mem {b : Book} {i : Nat} (h : i < b.length) : bookAt b i ∈ b := List.mem_of_getElem? (bookAt_some h)
/-- what somebody goes by now -/
def lineNow (h : House) (s : Stand) (who : Bool) : Line := (bookAt (h.per who).book (s.pg who)).at (feel (h.per who) s.level)
def looked (h : House) (s : Stand) (who : Bool) : Stand × Option Deed :=
  if s.phase % (h.per who).beat = 0 then
    let l := lineNow h s who
    let o := firstChg s.heater s.window l.tr
    ({ s with heater := (chg s.heater s.window o).1, window := (chg s.heater s.window o).2, p0 := if who then s.p0 else l.to, p1 := if who then l.to else s.p1 }, o)
  else (s, none)
def lookD (x : Stand × Option Deed) : D := .tuple [x.1.d, .str (oS x.2)]
abbrev S_looked (c : Fc) : Prop := ∀ (h : House) (s : Stand) (who : Bool) g, h.Ok → s.Ok h → c [.d h.d, .d s.d, .d (.int (wI who))] g = .ok (.d (lookD (looked h s who))) g
theorem House.Ok.per {h : House} (k : h.Ok) (who : Bool) : (h.per who).Ok h.top := by
  cases who
  · exact k.q0
  · exact k.q1
theorem Page.Ok.at {n : Nat} {p : Page} (h : p.Ok n) (f : Nat) : (p.at f).Ok n := by
  unfold Page.at
  split
  · exact h.c
  · split
    · exact h.h
    · exact h.w
theorem lineNow_ok {h : House} {s : Stand} (k : h.Ok) (o : s.Ok h) (who : Bool) : (lineNow h s who).Ok (h.per who).book.length :=
  ((k.per who).bk.pg _ (bookAt_mem (o.pg who))).at _
theorem page_at (p : Page) (f : Nat) (hf : f < 3) : [p.c.d, p.h.d, p.w.d][f]? = some (p.at f).d := by
  match f, hf with
  | 0, _ => rfl
  | 1, _ => rfl
  | 2, _ => rfl
theorem feel_lt (p : Pers) (l : Int) : feel p l < 3 := by
  unfold feel
  split
  · omega
  · split <;> omega
theorem per_d (h : House) (who : Bool) : L2.atI [h.q0.d, h.q1.d] (wI who) = some (h.per who).d := by cases who <;> rfl
theorem pg_d (s : Stand) (who : Bool) : L2.atI [PyData.int s.p0, PyData.int s.p1] (wI who) = some (.int (s.pg who)) := by cases who <;> rfl
@[simp] theorem idx_pers0 (g : Gs) (p : Pers) : idxO g p.d (.int 0) = .ok (.d (.int p.beat)) g := rfl
@[simp] theorem idx_pers1 (g : Gs) (p : Pers) : idxO g p.d (.int 1) = .ok (.d (.int p.cold)) g := rfl
@[simp] theorem idx_pers2 (g : Gs) (p : Pers) : idxO g p.d (.int 2) = .ok (.d (.int p.hot)) g := rfl
@[simp] theorem idx_pers3 (g : Gs) (p : Pers) : idxO g p.d (.int 3) = .ok (.d (bookD p.book)) g := rfl
theorem idx_book {g : Gs} {b : Book} {i : Nat} (h : i < b.length) : idxO g (bookD b) (.int i) = .ok (.d (bookAt b i).d) g := by
  simp [bookD, bookAt_some h]
theorem idx_page {g : Gs} {p : Page} {f : Nat} (h : f < 3) : idxO g p.d (.int f) = .ok (.d (p.at f).d) g := by
  rw [Page.d, idxO_tup, atI_nat, page_at p f h]; rfl
theorem ev_looked {C i1 i2 i3 i4} (h1 : S_looks (C i1)) (h2 : S_feeling_of (C i2)) (h3 : S_first_change (C i3)) (h4 : S_changed (C i4)) : S_looked (callD C (d_looked i1 i2 i3 i4)) := by
  intro h s who g k o
  simp [callD, d_looked, startE, h1 h s who g k]
  by_cases c : s.phase % (h.per who).beat = 0
  · simp [c, Stand.d, House.d]
    simp [per_d, pg_d, h2 (h.per who) h.top s.level _ (k.per who) k.t4, idx_book (o.pg who), idx_page (feel_lt (h.per who) s.level)]
    have h3' := h3 (s.heater, s.window) (lineNow h s who).tr g (lineNow_ok k o who).two
    have h4' := h4 (s.heater, s.window) (firstChg s.heater s.window (lineNow h s who).tr) g
    simp only [devD, lineNow] at h3' h4'
    simp [Line.d, h3', h4']
    cases who <;> simp [wI, lookD, looked, c, Stand.d, lineNow]
  · simp [c, lookD, looked, oS]
/-- the loss -/
def House.loss (h : House) (wi : Bool) (w : Wth) : Int := if wi then (if w = .cold then h.l3 else h.l2) else (if w = .cold then h.l1 else h.l0)
def changeOf (h : House) (s : Stand) (w : Wth) : Int := (if s.heater then h.heat else 0) - h.loss s.window w
abbrev S_change_of (c : Fc) : Prop := ∀ (h : House) (s : Stand) (w : Wth) g, h.Ok → c [.d h.d, .d s.d, .d w.d] g = .ok (.d (.int (changeOf h s w))) g
theorem ev_change_of {C} : S_change_of (callD C d_change_of) := by
  intro h s w g k
  have m1 : mulOk h.heat 1 = true := mulOk_of (small (by have := k.h1; omega) (by have := k.h3; omega)) (small (by omega) (by omega))
  have m0 : mulOk h.heat 0 = true := mulOk_of (small (by have := k.h1; omega) (by have := k.h3; omega)) (small (by omega) (by omega))
  obtain ⟨l, he, wi, ph, p0, p1⟩ := s
  cases he <;> cases wi <;> cases w <;> simp [callD, d_change_of, startE, House.d, Stand.d, Wth.d, Wth.str, changeOf, House.loss, binW_mul m1, binW_mul m0, show binW .mul g (.int 2) (.int 0) = .ok (.d (.int 0)) g from rfl, show binW .mul g (.int 2) (.int 1) = .ok (.d (.int 2)) g from rfl]
theorem loss_le {h : House} (k : h.Ok) (wi : Bool) (w : Wth) : 0 ≤ h.loss wi w ∧ h.loss wi w ≤ 3 := by
  unfold House.loss
  split <;> split
  · exact k.a3
  · exact k.a2
  · exact k.a1
  · exact k.a0
theorem change_le {h : House} (k : h.Ok) (s : Stand) (w : Wth) : -3 ≤ changeOf h s w ∧ changeOf h s w ≤ 3 := by
  have := loss_le k s.window w
  have := k.h1; have := k.h3
  unfold changeOf
  split <;> omega
def passed (h : House) (s : Stand) (w : Wth) : Stand := { s with level := min (2 * h.top) (max 0 (s.level + 2 * changeOf h s w)), phase := (s.phase + 1) % h.period }
abbrev S_passed (c : Fc) : Prop := ∀ (h : House) (s : Stand) (w : Wth) g, h.Ok → c [.d h.d, .d s.d, .d w.d] g = .ok (.d (passed h s w).d) g
theorem period_pos {h : House} (k : h.Ok) : 0 < h.period := by
  have := k.q0.b1
  unfold House.period; omega
theorem cut13 (a b c d e : D) : cutD [a, b, c, d, e] (some 1) (some 3) = [b, c] := rfl
theorem ev_passed {C i1 i2} (h1 : S_change_of (C i1)) (h2 : S_period_of (C i2)) : S_passed (callD C (d_passed i1 i2)) := by
  intro h s w g k
  have c := change_le k s w
  have m1 : mulOk 2 (changeOf h s w) = true := mulOk_of (small (by omega) (by omega)) (small (by omega) (by omega))
  have m2 : mulOk 2 h.top = true := mulOk_of (small (by omega) (by omega)) (small (by have := k.t2; omega) (by have := k.t4; omega))
  have e1 : ∀ g, idxO g s.d (.int 0) = .ok (.d (.int s.level)) g := fun _ => rfl
  have e3 : ∀ g, idxO g s.d (.int 3) = .ok (.d (.int s.phase)) g := fun _ => rfl
  have e4 : ∀ g, idxO g s.d (.int 4) = .ok (.d (.tuple [.int s.p0, .int s.p1])) g := fun _ => rfl
  have f0 : ∀ g, idxO g h.d (.int 0) = .ok (.d (.tuple [.int h.top, .int h.heat, .tuple [.int h.l0, .int h.l1, .int h.l2, .int h.l3]])) g := fun _ => rfl
  have s1 : ∀ g, sliceW g s.d (some 1) (some 3) = .ok (.d (.tuple [.bool s.heater, .bool s.window])) g := fun _ => rfl
  simp [callD, d_passed, startE, e1, e3, e4, f0, s1, h1 h s w _ k, h2 h, binW_mul m1, binW_mul m2, binW_mod (period_pos k), passed]
  rfl
def stepM (h : House) (s : Stand) : Stand × Option Deed × Option Deed :=
  let x := looked h s false
  let y := looked h x.1 true
  (y.1, x.2, y.2)
def deedsD2 (a b : Option Deed) : D := .tuple [.str (oS a), .str (oS b)]
abbrev S_step (c : Fc) : Prop := ∀ (h : House) (s : Stand) (w : Wth) g, h.Ok → s.Ok h → c [.d h.d, .d s.d, .d w.d] g = .ok (.d (.tuple [(passed h (stepM h s).1 w).d, deedsD2 (stepM h s).2.1 (stepM h s).2.2, (stepM h s).1.d])) g
theorem looked_ok {h : House} {s : Stand} (k : h.Ok) (o : s.Ok h) (who : Bool) : (looked h s who).1.Ok h := by
  have l := (lineNow_ok k o who).to
  unfold looked
  split
  · cases who
    · exact ⟨l, o.p1⟩
    · exact ⟨o.p0, l⟩
  · exact o
theorem stepM_ok {h : House} {s : Stand} (k : h.Ok) (o : s.Ok h) : (stepM h s).1.Ok h := looked_ok k (looked_ok k o false) true
theorem passed_ok {h : House} {s : Stand} (o : s.Ok h) (w : Wth) : (passed h s w).Ok h := ⟨o.p0, o.p1⟩
theorem ev_step {C i1 i2} (h1 : S_looked (C i1)) (h2 : S_passed (C i2)) : S_step (callD C (d_step i1 i2)) := by
  intro h s w g k o
  have a := h1 h s false g k o
  have b := h1 h (looked h s false).1 true g k (looked_ok k o false)
  simp only [wI, lookD] at a b
  simp at a b
  simp [callD, d_step, startE, a, b, h2 h _ w _ k, stepM, deedsD2]
def movedN (h : House) (a b ch : Int) : Int := min (h.top * b) (max 0 (a + ch * b))
abbrev S_moved (c : Fc) : Prop := ∀ (h : House) (a b ch : Int) g, h.Ok → 0 ≤ a → a ≤ 10 ^ 30 → 0 < b → b < 10 ^ 15 → -3 ≤ ch → ch ≤ 3 → c [.d h.d, .d (frD a b), .d (.int ch)] g = .ok (.d (frD (lowA (movedN h a b ch) b) (lowB (movedN h a b ch) b))) g
theorem ev_moved {C i1} (h1 : S_lowest (C i1)) : S_moved (callD C (d_moved i1)) := by
  intro h a b ch g k a0 a1 b0 b1 c0 c1
  have m1 : mulOk ch b = true := mulOk_of (small (by omega) (by omega)) (small (by omega) (by omega))
  have m2 : mulOk h.top b = true := mulOk_of (small (by have := k.t2; omega) (by have := k.t4; omega)) (small (by omega) (by omega))
  have f0 : ∀ g, idxO g h.d (.int 0) = .ok (.d (.tuple [.int h.top, .int h.heat, .tuple [.int h.l0, .int h.l1, .int h.l2, .int h.l3]])) g := fun _ => rfl
  have e0 : ∀ g, idxO g (frD a b) (.int 0) = .ok (.d (.int a)) g := fun _ => rfl
  have e1 : ∀ g, idxO g (frD a b) (.int 1) = .ok (.d (.int b)) g := fun _ => rfl
  have t0 : 0 ≤ h.top * b := Int.mul_nonneg (by have := k.t2; omega) (by omega)
  have l := h1 (movedN h a b ch) b g (by unfold movedN; omega) b0 (by omega)
  simp [callD, d_moved, startE, f0, e0, e1, binW_mul m1, binW_mul m2]
  simp only [movedN] at l
  simp [l, movedN]
/-! ### runs -/
structure Tick where
  a : Int
  b : Int
  s : Stand
  mine : Option Deed
  yours : Option Deed
def Tick.d (t : Tick) : D := .tuple [frD t.a t.b, t.s.d, deedsD2 t.mine t.yours]
structure Led where
  a : Int
  b : Int
  s : Stand
  rows : List Tick
def ledStep (h : House) (x : Led) (w : Wth) : Led :=
  let y := stepM h x.s
  let n := movedN h x.a x.b (changeOf h y.1 w)
  ⟨lowA n x.b, lowB n x.b, passed h y.1 w, x.rows ++ [⟨x.a, x.b, x.s, y.2.1, y.2.2⟩]⟩
def ledM (h : House) (a b : Int) (he wi : Bool) (ws : List Wth) : Led := ws.foldl (ledStep h) ⟨a, b, Stand.start (levelOf a b) he wi, []⟩
/-- a start as it is written -/
structure Fr.Ok (top a b : Int) : Prop where
  a0 : 0 ≤ a
  b0 : 0 < b
  b1 : b ≤ 10 ^ 12
  le : a ≤ top * b
structure Led.Ok (h : House) (x : Led) : Prop where
  f : Fr.Ok h.top x.a x.b
  s : x.s.Ok h
theorem House.Ok.books {h : House} (k : h.Ok) (l : Int) (he wi : Bool) : (Stand.start l he wi).Ok h := ⟨k.q0.bk.lo, k.q1.bk.lo⟩
theorem gcd_dvd {a b : Int} : (Int.gcd a b : Int) ∣ a ∧ (Int.gcd a b : Int) ∣ b := ⟨Int.gcd_dvd_left a b, Int.gcd_dvd_right a b⟩
theorem low_ok {top a b : Int} (ht : 0 ≤ top) (f : Fr.Ok top a b) : Fr.Ok top (lowA a b) (lowB a b) := by
  obtain ⟨⟨x, hx⟩, ⟨y, hy⟩⟩ := gcd_dvd (a := a) (b := b)
  have g0 := gcd_pos (a := a) f.b0
  generalize hg : (Int.gcd a b : Int) = d at *
  have ea : lowA a b = x := by unfold lowA; rw [hg, hx, Int.mul_ediv_cancel_left _ (by omega)]
  have eb : lowB a b = y := by unfold lowB; rw [hg, hy, Int.mul_ediv_cancel_left _ (by omega)]
  rw [ea, eb]
  have a0 := f.a0; have b0 := f.b0; have b1 := f.b1; have le := f.le
  have x0 : 0 ≤ x := by
    rw [hx] at a0
    exact Int.nonneg_of_mul_nonneg_right a0 g0
  have y0 : 0 < y := by
    rw [hy] at b0
    exact Int.pos_of_mul_pos_right b0 g0
  have y1 : y ≤ b := by
    rw [hy]
    have : 1 * y ≤ d * y := Int.mul_le_mul_of_nonneg_right (by omega) (by omega)
    omega
  refine ⟨x0, y0, by omega, ?_⟩
  have : d * x ≤ d * (top * y) := by
    rw [← hx]
    rw [hy] at le
    rw [Int.mul_left_comm]
    exact le
  exact Int.le_of_mul_le_mul_left this g0
theorem moved_ok {h : House} (k : h.Ok) {a b ch : Int} (f : Fr.Ok h.top a b) : Fr.Ok h.top (lowA (movedN h a b ch) b) (lowB (movedN h a b ch) b) := by
  have t0 := k.t2
  have : 0 ≤ h.top * b := Int.mul_nonneg (by omega) (by have := f.b0; omega)
  exact low_ok (by omega) ⟨by unfold movedN; omega, f.b0, f.b1, by unfold movedN; omega⟩
theorem ledStep_ok {h : House} (k : h.Ok) {x : Led} (o : x.Ok h) (w : Wth) : (ledStep h x w).Ok h :=
  ⟨moved_ok k o.f, passed_ok (stepM_ok k o.s) w⟩
def ledD (x : Led) : D := .tuple [.list (x.rows.map Tick.d), frD x.a x.b, x.s.d]
abbrev S_led (c : Fc) : Prop := ∀ (h : House) (a b : Int) (he wi : Bool) (ws : List Wth) g, h.Ok → Fr.Ok h.top a b → ws.length ≤ 60 → c [.d h.d, .d (startD a b he wi), .d (.tuple (ws.map Wth.d))] g = .ok (.d (ledD (ledM h a b he wi ws))) g
theorem Fr.Ok.big {top a b : Int} (t : top ≤ 4) (f : Fr.Ok top a b) : a ≤ 10 ^ 30 ∧ b < 10 ^ 15 := by
  have := f.b1; have := f.le; have b0 := f.b0
  have h1 : top * b ≤ 4 * b := Int.mul_le_mul_of_nonneg_right t (by omega)
  omega
theorem ledFold_ok {h : House} (k : h.Ok) : ∀ (ws : List Wth) {x : Led}, x.Ok h → (ws.foldl (ledStep h) x).Ok h ∧ (ws.foldl (ledStep h) x).rows.length = x.rows.length + ws.length
  | [], _, o => ⟨o, rfl⟩
  | w :: ws, x, o => by
    obtain ⟨h1, h2⟩ := ledFold_ok k ws (ledStep_ok k o w)
    refine ⟨h1, ?_⟩
    rw [List.foldl_cons, h2]
    simp [ledStep]
    omega
theorem led0_ok {h : House} (k : h.Ok) {a b : Int} (f : Fr.Ok h.top a b) (he wi : Bool) : Led.Ok h ⟨a, b, Stand.start (levelOf a b) he wi, []⟩ := ⟨f, k.books _ he wi⟩
theorem ledM_ok {h : House} (k : h.Ok) {a b : Int} (f : Fr.Ok h.top a b) (he wi : Bool) (ws : List Wth) : (ledM h a b he wi ws).Ok h ∧ (ledM h a b he wi ws).rows.length = ws.length := by
  have := ledFold_ok k ws (led0_ok k f he wi)
  simpa [ledM] using this
theorem get_new (g : Gs) (o : Option Ob) : (g ++ [o])[g.length]? = some o := by simp
theorem set_new (g : Gs) (o o' : Option Ob) : (g ++ [o]).set g.length o' = g ++ [o'] := by simp
theorem ev_led {C i1 i2 i3 i4} (h1 : S_begun (C i1)) (h2 : S_step (C i2)) (h3 : S_moved (C i3)) (h4 : S_change_of (C i4)) : S_led (callD C (d_led i1 i2 i3 i4)) := by
  intro h a b he wi ws g k f hw
  have big := f.big k.t4
  have e1 := h1 h.d a b he wi g f.a0 big.1 f.b0 big.2
  have e0 : ∀ g, idxO g (startD a b he wi) (.int 0) = .ok (.d (frD a b)) g := fun _ => rfl
  simp [callD, d_led, startE, e0, e1]
  generalize hr : forRun C _ _ _ _ _ = r
  obtain ⟨env', g', rfl, ⟨o3, o7, o8, o9, rfl⟩, rfl⟩ := invW hr (fun pre env g' => (∃ o3 o7 o8 o9, env = [some (W.d h.d), some (W.d (startD a b he wi)), some (W.d (PyData.tuple (List.map Wth.d ws))), o3, some (W.d (frD (ledM h a b he wi pre).a (ledM h a b he wi pre).b)), some (W.d (ledM h a b he wi pre).s.d), some (W.ref (List.length g)), o7, o8, o9]) ∧ g' = g ++ [some (.lst ((ledM h a b he wi pre).rows.map Tick.d))]) ⟨⟨_, _, _, _, rfl⟩, rfl⟩ (by
    rintro pre w post hws env g' ⟨⟨o3, o7, o8, o9, rfl⟩, rfl⟩
    obtain ⟨ok, len⟩ := ledM_ok k f he wi pre
    have e : ledM h a b he wi (pre ++ [w]) = ledStep h (ledM h a b he wi pre) w := by simp [ledM]
    rw [e]
    have hl : pre.length < 60 := by rw [hws] at hw; simp at hw; omega
    generalize ledM h a b he wi pre = x at *
    have big := ok.f.big k.t4
    have cl := change_le k (stepM h x.s).1 w
    simp [h2 h x.s w _ k ok.s]
    simp [kApp_eq C _ (get_new g _), kApp3_eq _ (get_new g _), len, show pre.length < 16777216 by omega, h4 h _ w _ k, h3 h x.a x.b _ _ k ok.f.a0 big.1 ok.f.b0 big.2 cl.1 cl.2]
    simp [ledStep, Tick.d])
  simp [kFrzv_eq _ (get_new g _), ledD]
def isRun (ws : List Wth) (x : D) : Bool := match x with
  | .tuple xs => decide (xs.length ≤ 60) && xs.all fun y => isWord y (ws.map Wth.d)
  | _ => false
abbrev S_is_run_value (c : Fc) : Prop := ∀ (h : House) x g, c [.d h.d, .d x] g = .ok (.d (.bool (isRun h.ws x))) g
theorem ev_is_run_value {C} : S_is_run_value (callD C d_is_run_value) := by
  intro h x g
  have f1 : ∀ g, idxO g h.d (.int 1) = .ok (.d (.tuple (h.ws.map Wth.d))) g := fun _ => rfl
  cases x <;> simp [callD, d_is_run_value, startE, isRun, isTy]
  rename_i xs
  by_cases h2 : xs.length ≤ 60
  · have h2' : ¬ (60 : Int) < xs.length := by omega
    simp [h2, h2', show xs.length ≤ 16777216 by omega]
    rw [lc_map (fun x => .bool (isWord x (h.ws.map Wth.d))) fun x _ => ⟨_, rfl, by cases x <;> simp [isTy, isWord, f1, PyData.depth]⟩]
    simp
  · have h2' : (60 : Int) < xs.length := by omega
    simp [h2, h2']
theorem isRun_ok {ws vs : List Wth} (h : vs.length ≤ 60) (k : ∀ v ∈ vs, v ∈ ws) : isRun ws (.tuple (vs.map Wth.d)) = true := by
  simp [isRun, h]
  intro v hv
  simp [isWord, Wth.d]
  exact ⟨v, k v hv, rfl⟩
theorem isStart_ok {top a b : Int} (f : Fr.Ok top a b) (t : top ≤ 4) (a1 : a ≤ 10 ^ 12) (hg : Int.gcd a b = 1) (he wi : Bool) : isStart top (startD a b he wi) = true := by
  have a0 := f.a0; have b0 := f.b0; have b1 := f.b1; have le := f.le
  simp [isStart, startD, isWarmth, frD, isWithin, intOf, isBool, hg]
  exact ⟨⟨a0, by omega⟩, ⟨by omega, by omega⟩, decide_eq_true le⟩
def exc (s : Str) (g : Gs) : Out W := .exc ⟨s, none⟩ g
abbrev S_need_run (c : Fc) : Prop := (∀ x y z g, isHouse x = false → c [.d x, .d y, .d z] g = exc "InvalidHouse" g) ∧
  (∀ (h : House) y z g, h.Ok → c [.d h.d, .d y, .d z] g = if isStart h.top y = true then if isRun h.ws z = true then .ok (.d .none) g else exc "InvalidRun" g else exc "InvalidStart" g)
theorem ev_need_run {C i1 i2 i3} (h1 : S_need_house (C i1)) (h2 : S_need_start (C i2)) (h3 : S_is_run_value (C i3)) : S_need_run (callD C (d_need_run i1 i2 i3)) := by
  refine ⟨fun x y z g k => ?_, fun h y z g k => ?_⟩
  · simp [callD, d_need_run, startE, h1, k, exc]
  · have h2' := fun g => h2 h.top [.int h.heat, .tuple [.int h.l0, .int h.l1, .int h.l2, .int h.l3]] [.tuple (h.ws.map Wth.d), .tuple [h.q0.d, h.q1.d]] y g (by have := k.t2; omega) k.t4
    have h2' : ∀ g, C i2 [.d h.d, .d y] g = _ := h2'
    simp [callD, d_need_run, startE, h1, isHouse_ok k, h2']
    cases isStart h.top y <;> simp [exc]
    simp [h3]
    cases isRun h.ws z <;> simp
/-- what the three tell, when all is well -/
structure CallOk (h : House) (a b : Int) (ws : List Wth) : Prop where
  k : h.Ok
  f : Fr.Ok h.top a b
  a1 : a ≤ 10 ^ 12
  g : Int.gcd a b = 1
  len : ws.length ≤ 60
  mem : ∀ w ∈ ws, w ∈ h.ws
def runD (ws : List Wth) : D := .tuple (ws.map Wth.d)
theorem need_run_ok {c : Fc} (n : S_need_run c) {h : House} {a b : Int} {ws : List Wth} (k : CallOk h a b ws) (he wi : Bool) (g : Gs) : c [.d h.d, .d (startD a b he wi), .d (runD ws)] g = .ok (.d .none) g := by
  rw [n.2 h _ _ g k.k, if_pos (isStart_ok k.f k.k.t4 k.a1 k.g he wi), show isRun h.ws (runD ws) = true from isRun_ok k.len k.mem, if_pos rfl]
abbrev S_deeds (c : Fc) : Prop := ∀ (h : House) (a b : Int) (he wi : Bool) (ws : List Wth) g, CallOk h a b ws → c [.d h.d, .d (startD a b he wi), .d (runD ws)] g = .ok (.d (.list ((ledM h a b he wi ws).rows.map fun t => deedsD2 t.mine t.yours))) g
theorem ev_deeds {C i1 i2} (h1 : S_need_run (C i1)) (h2 : S_led (C i2)) : S_deeds (callD C (d_deeds i1 i2)) := by
  intro h a b he wi ws g k
  have l := (ledM_ok k.k k.f he wi ws).2
  have e2 := h2 h a b he wi ws g k.k k.f k.len
  rw [show (.tuple (ws.map Wth.d) : D) = runD ws from rfl] at e2
  have := k.len
  simp [callD, d_deeds, startE, need_run_ok h1 k, e2, ledD, l, show ws.length ≤ 16777216 by omega]
  rw [lcm_map (fun t => deedsD2 t.mine t.yours) fun t _ => ⟨_, rfl, by simp [Tick.d]⟩]
  simp
abbrev S_warmths (c : Fc) : Prop := ∀ (h : House) (a b : Int) (he wi : Bool) (ws : List Wth) g, CallOk h a b ws → c [.d h.d, .d (startD a b he wi), .d (runD ws)] g = .ok (.d (.list ((ledM h a b he wi ws).rows.map (fun t => frD t.a t.b) ++ [frD (ledM h a b he wi ws).a (ledM h a b he wi ws).b]))) g
theorem ev_warmths {C i1 i2} (h1 : S_need_run (C i1)) (h2 : S_led (C i2)) : S_warmths (callD C (d_warmths i1 i2)) := by
  intro h a b he wi ws g k
  have l := (ledM_ok k.k k.f he wi ws).2
  have e2 := h2 h a b he wi ws g k.k k.f k.len
  rw [show (.tuple (ws.map Wth.d) : D) = runD ws from rfl] at e2
  have := k.len
  simp [callD, d_warmths, startE, need_run_ok h1 k, e2, ledD, l, show ws.length ≤ 16777216 by omega]
  rw [lcm_map (fun t => frD t.a t.b) fun t _ => ⟨_, rfl, by simp [Tick.d]⟩]
  simp [l, show ws.length + 1 ≤ 16777216 by omega]
abbrev S_stand_behind (c : Fc) : Prop := ∀ (h : House) (a b : Int) (he wi : Bool) (ws : List Wth) g, CallOk h a b ws → c [.d h.d, .d (startD a b he wi), .d (runD ws)] g = .ok (.d (ledM h a b he wi ws).s.d) g
theorem ev_stand_behind {C i1 i2} (h1 : S_need_run (C i1)) (h2 : S_led (C i2)) : S_stand_behind (callD C (d_stand_behind i1 i2)) := by
  intro h a b he wi ws g k
  have e2 := h2 h a b he wi ws g k.k k.f k.len
  rw [show (.tuple (ws.map Wth.d) : D) = runD ws from rfl] at e2
  simp [callD, d_stand_behind, startE, need_run_ok h1 k, e2, ledD]
end RF
end
section
set_option Elab.async false
set_option linter.all false
set_option maxRecDepth 100000
/-! What the laws draw. -/
namespace RF
open PySem

/-- a deck at n, that has counted to m at most -/
def Dk (g : Gs) (n : Nat) (m : Int) : Prop := ∃ a b c : Int, g[n]? = some (some (.lst [.int a, .int b, .int c])) ∧ 0 ≤ b ∧ b < 2147483648 ∧ 0 ≤ c ∧ c ≤ m
/-- the deck alone has changed -/
def DkU (g : Gs) (n : Nat) (m : Int) (g' : Gs) : Prop := (∃ o, g' = g.set n o) ∧ Dk g' n m
theorem Dk.lt {g : Gs} {n : Nat} {m : Int} (h : Dk g n m) : n < g.length := by
  obtain ⟨a, b, c, h, _⟩ := h
  exact (List.getElem?_eq_some_iff.mp h).1
theorem Dk.app {g : Gs} {n : Nat} {m : Int} (h : Dk g n m) (j : Gs) : Dk (g ++ j) n m := by
  have := h.lt
  obtain ⟨a, b, c, h, r⟩ := h
  exact ⟨a, b, c, by rw [List.getElem?_append_left this]; exact h, r⟩
theorem Dk.mono {g : Gs} {n : Nat} {m m' : Int} (h : Dk g n m) (k : m ≤ m') : Dk g n m' := by
  obtain ⟨a, b, c, h, r1, r2, r3, r4⟩ := h
  exact ⟨a, b, c, h, r1, r2, r3, by omega⟩
theorem Dk.u {g : Gs} {n : Nat} {m : Int} (h : Dk g n m) : DkU g n m g := by
  refine ⟨⟨g[n]?.getD none, ?_⟩, h⟩
  obtain ⟨a, b, c, h, _⟩ := h
  rw [h]
  obtain ⟨hn, e⟩ := List.getElem?_eq_some_iff.mp h
  rw [Option.getD_some, ← e, List.set_getElem_self]
theorem DkU.len {g g' : Gs} {n : Nat} {m : Int} (h : DkU g n m g') : g'.length = g.length := by
  obtain ⟨⟨o, rfl⟩, _⟩ := h
  simp
theorem DkU.trans {g g' g'' : Gs} {n : Nat} {m m' : Int} (h : DkU g n m g') (k : DkU g' n m' g'') : DkU g n m' g'' := by
  obtain ⟨⟨o, rfl⟩, _⟩ := h
  obtain ⟨⟨o', rfl⟩, k⟩ := k
  exact ⟨⟨o', by simp⟩, k⟩
theorem DkU.mono {g g' : Gs} {n : Nat} {m m' : Int} (h : DkU g n m g') (k : m ≤ m') : DkU g n m' g' := ⟨h.1, h.2.mono k⟩
/-- what is younger stays -/
theorem DkU.split {g j g' : Gs} {n : Nat} {m : Int} (hn : n < g.length) (h : DkU (g ++ j) n m g') : ∃ g'', g' = g'' ++ j ∧ DkU g n m g'' := by
  obtain ⟨⟨o, rfl⟩, k⟩ := h
  refine ⟨g.set n o, by rw [List.set_append_left _ _ hn], ⟨o, rfl⟩, ?_⟩
  obtain ⟨a, b, c, e, r⟩ := k
  rw [List.set_append_left _ _ hn, List.getElem?_append_left (by simpa using hn)] at e
  exact ⟨a, b, c, e, r⟩
theorem DkU.take {g g' : Gs} {n : Nat} {m : Int} (h : DkU g n m g') (j : Gs) : (g' ++ j).take g.length = g' := take_junk g g' h.len j
theorem DkU.take0 {g g' : Gs} {n : Nat} {m : Int} (h : DkU g n m g') : g'.take g.length = g' := by
  rw [← h.len]; simp
theorem DkU.lt {g g' : Gs} {n : Nat} {m : Int} (h : DkU g n m g') : n < g.length := by
  rw [← h.len]; exact h.2.lt
@[simp] theorem take_set0 (g : Gs) (n : Nat) (o : Option Ob) : (g.set n o).take g.length = g.set n o := by
  have : (g.set n o).length = g.length := by simp
  rw [← this, List.take_length]
abbrev S__law_pick (c : Fc) : Prop := ∀ {n : Nat} {size m : Int} {g : Gs} {o : Out W}, c [.ref n, .d (.int size)] g = o → Dk g n m → 0 < size → size < 4611686018427387904 → m < 1000000000 →
  ∃ r g', o = .ok (.d (.int r)) g' ∧ 0 ≤ r ∧ r < size ∧ DkU g n (m + 1) g'
@[simp] theorem give_d' (g : Gs) (x : D) : give g (.d x) = .ok x g := rfl
theorem powOk_of {a : Int} (k : Int) (h0 : 0 ≤ k) (h1 : k ≤ 1000000) (h : a.natAbs < 18446744073709551616) : powOk a k = true := by
  simp only [powOk, Bool.and_eq_true, decide_eq_true_eq]
  exact ⟨⟨h0, h1⟩, h⟩
theorem ixN3_0 (a b c : D) : L2.ixN [a, b, c].length 0 = some 0 := rfl
theorem ixN3_2 (a b c : D) : L2.ixN [a, b, c].length 2 = some 2 := rfl
theorem ev__law_pick {C} : S__law_pick (callD C d__law_pick) := by
  intro n size m g o ho dk s0 s1 hm
  have hn := dk.lt
  obtain ⟨a, b, c, h, b0, b1, c0, c1⟩ := dk
  subst ho
  by_cases ha : 1 < a
  · simp [callD, d__law_pick, startE, h, ha, binW_mod s0, binW_fdiv (divOk_of s0 s1), kSi4_eq _ h (ixN3_0 _ _ _)]
    refine ⟨_, _, ⟨rfl, rfl⟩, Int.emod_nonneg _ (by omega), Int.emod_lt_of_pos _ s0, ⟨_, rfl⟩, a / size, b, c, by simp [hn], b0, b1, c0, by omega⟩
  · have m1 : mulOk 15485867 (c + 1) = true := mulOk_of (small (by omega) (by omega)) (small (by omega) (by omega))
    have m2 : mulOk 7919 (c + 1) = true := mulOk_of (small (by omega) (by omega)) (small (by omega) (by omega))
    have p1 : powOk (b + 15485867 * (c + 1)) 5 = true := powOk_of 5 (by omega) (by omega) (by omega)
    have x0 := Int.emod_nonneg ((b + 15485867 * (c + 1)) ^ 5) (b := 2147483647) (by omega)
    have x1 := Int.emod_lt_of_pos ((b + 15485867 * (c + 1)) ^ 5) (b := 2147483647) (by omega)
    have p2 : powOk ((b + 15485867 * (c + 1)) ^ 5 % 2147483647 + 7919 * (c + 1)) 3 = true := powOk_of 3 (by omega) (by omega) (by omega)
    have hs : (g.set n (some (.lst [.int a, .int b, .int (c + 1)])))[n]? = some (some (.lst [.int a, .int b, .int (c + 1)])) := by simp [hn]
    have d32 : divOk 32 = true := by decide
    simp [callD, d__law_pick, startE, h, ha, kSi4_eq _ h (ixN3_2 _ _ _), hs, binW_mul m1, pow_ok _ _ _ p1, binW_mod (g := _) (show (0 : Int) < 2147483647 by omega), binW_mul m2, pow_ok _ _ _ p2, binW_mod (show (0 : Int) < 2147483629 by omega), binW_fdiv d32, binW_mod s0]
    refine ⟨_, _, ⟨rfl, rfl⟩, Int.emod_nonneg _ (by omega), Int.emod_lt_of_pos _ s0, ⟨_, rfl⟩, _, _, _, hs, b0, b1, by omega, by omega⟩
abbrev S__law_one (c : Fc) : Prop := ∀ {n : Nat} {xs : List D} {m : Int} {g : Gs} {o : Out W}, c [.ref n, .d (.list xs)] g = o → Dk g n m → xs ≠ [] → xs.length < 1000000 → m < 1000000000 →
  ∃ x g', o = .ok (.d x) g' ∧ x ∈ xs ∧ DkU g n (m + 1) g'
theorem ev__law_one {C i1} (h1 : S__law_pick (C i1)) : S__law_one (callD C (d__law_one i1)) := by
  intro n xs m g o ho dk x0 x1 hm
  subst ho
  have hl : 0 < xs.length := List.length_pos_iff.mpr x0
  simp [callD, d__law_one, startE]
  generalize hr : C i1 _ _ = o
  obtain ⟨r, g', rfl, r0, r1, u⟩ := h1 hr dk (by omega) (by omega) hm
  obtain ⟨k, rfl⟩ := Int.eq_ofNat_of_zero_le r0
  have e : xs[k]? = some (xs[k]'(by omega)) := List.getElem?_eq_getElem (by omega)
  simp [e]
  exact ⟨_, _, ⟨rfl, u.take0⟩, List.getElem_mem _, u⟩
abbrev S__law_deck (c : Fc) : Prop := ∀ {cell turn : Int} {g : Gs} {o : Out W}, c [.d (.int cell), .d (.int turn)] g = o → 0 ≤ turn → turn ≤ 100 →
  ∃ g', o = .ok (.ref g.length) g' ∧ Dk g' g.length 100 ∧ ∃ x, g' = g ++ [x]
theorem ev__law_deck {C} : S__law_deck (callD C d__law_deck) := by
  intro cell turn g o ho t0 t1
  subst ho
  have x0 := Int.emod_nonneg cell (b := 2147483579) (by omega)
  have x1 := Int.emod_lt_of_pos cell (b := 2147483579) (by omega)
  by_cases h : 1000000000000000000 ≤ cell
  · simp [callD, d__law_deck, startE, h, binW_mod (show (0 : Int) < 2147483579 by omega), endF, keepAt]
    exact ⟨cell - 1000000000000000000, cell % 2147483579, turn, by simp, x0, by omega, t0, t1⟩
  · simp [callD, d__law_deck, startE, h, binW_mod (show (0 : Int) < 2147483579 by omega), endF, keepAt]
    exact ⟨0, cell % 2147483579, turn, by simp, x0, by omega, t0, t1⟩
abbrev S__law_tried (c : Fc) : Prop := ∀ {n : Nat} {m : Int} {g : Gs} {o : Out W}, c [.ref n] g = o → Dk g n m → m < 900000000 →
  ∃ (ds : List Deed) (g' : Gs), o = .ok (.d (.tuple (ds.map Deed.d))) g' ∧ ds.length ≤ 2 ∧ ds.Nodup ∧ DkU g n (m + 3) g'
def allDeeds : List Deed := [.off, .on, .opn, .shut]
theorem allDeeds_d : ([.str "off", .str "on", .str "open", .str "shut"] : List D) = allDeeds.map Deed.d := rfl
theorem ev__law_tried {C i1 i2} (h1 : S__law_one (C i1)) (h2 : S__law_pick (C i2)) : S__law_tried (callD C (d__law_tried i1 i2)) := by
  intro n m g o ho dk hm
  subst ho
  simp [callD, d__law_tried, startE]
  rw [allDeeds_d]
  generalize hr : C i1 _ _ = o
  obtain ⟨x, g1, rfl, hx, u1⟩ := h1 hr dk (by simp [allDeeds]) (by simp [allDeeds]) (by omega)
  obtain ⟨d, hd, rfl⟩ := List.mem_map.mp hx
  simp [← u1.len]
  rw [allDeeds_d, lcm_filter (fun y => !decide (y = d)) (fun y => y.d) fun y _ => ⟨_, rfl, by simp [Deed.d, Deed.str_inj], fun _ => by simp⟩]
  simp
  clear hr
  generalize hr : C i1 _ _ = o
  obtain ⟨x, g2, rfl, hx, u2⟩ := h1 hr u1.2 (by cases d <;> simp [allDeeds]) (by cases d <;> simp [allDeeds]) (by omega)
  obtain ⟨e, he, rfl⟩ := List.mem_map.mp hx
  have hed : ¬ e = d := by simpa using (List.mem_filter.mp he).2
  simp
  clear hr
  generalize hr : C i2 _ _ = o
  obtain ⟨r, g3, rfl, r0, r1, u3⟩ := h2 hr (u2.2.app _) (by omega) (by omega) (by omega)
  obtain ⟨g4, rfl, u4⟩ := u3.split u2.2.lt
  have u := (u1.trans u2).trans u4
  obtain ⟨k, rfl⟩ := Int.eq_ofNat_of_zero_le r0
  have hk : k < 4 := by omega
  have l1 := (u2.trans u4).len
  have l2 := u4.len
  have um := u.mono (m' := m + 3) (by omega)
  match k, hk with
  | 0, _ =>
    simp [← l1, ← l2]
    exact ⟨[], by simp [um]⟩
  | 1, _ =>
    simp [← l1, ← l2]
    exact ⟨[d], by simp [um]⟩
  | 2, _ =>
    simp [← l1, ← l2]
    exact ⟨[d], by simp [um]⟩
  | 3, _ =>
    simp [← l1, ← l2]
    exact ⟨[d, e], by simp [um]; exact fun q => hed q.symm⟩
abbrev S__law_book (c : Fc) : Prop := ∀ {n : Nat} {most m : Int} {g : Gs} {o : Out W}, c [.ref n, .d (.int most)] g = o → Dk g n m → 1 ≤ most → most ≤ 3 → m < 800000000 →
  ∃ (b : Book) (g' : Gs), o = .ok (.d (bookD b)) g' ∧ Book.Ok b ∧ (b.length : Int) ≤ most ∧ DkU g n (m + 50) g'
theorem DkU.step {g g' g'' : Gs} {n : Nat} {m m' m'' : Int} (h : DkU g n m g') (k : DkU g' n m' g'') (l : m' ≤ m'') : DkU g n m'' g'' := (h.trans k).mono l
theorem pre_len {xs pre post : List D} {x : D} (h : xs = pre ++ x :: post) : pre.length < xs.length := by rw [h]; simp
theorem three {α : Type} {xs : List α} (h : xs.length = 3) : ∃ a b c, xs = [a, b, c] := by
  match xs, h with
  | [a, b, c], _ => exact ⟨a, b, c, rfl⟩
theorem ev__law_book {C i1 i2} (h1 : S__law_pick (C i1)) (h2 : S__law_tried (C i2)) : S__law_book (callD C (d__law_book i1 i2)) := by
  intro n most m g o ho dk m1 m3 hm
  subst ho
  simp [callD, d__law_book, startE]
  generalize hr : C i1 _ _ = o
  obtain ⟨r, g1, rfl, r0, r1, u1⟩ := h1 hr dk (by omega) (by omega) (by omega)
  obtain ⟨k, rfl⟩ := Int.eq_ofNat_of_zero_le r0
  simp [kRng_of (n := 1 + (k : Int)) (by omega) (by omega)]
  clear hr
  generalize hr : forRun C _ _ _ _ _ = o
  obtain ⟨env', g', rfl, ⟨ps, o2, o5, o6, hl, hok, rfl, u⟩⟩ := invD hr (fun pre env g' => ∃ (ps : List Page) (o2 o5 o6 : Option W), ps.length = pre.length ∧ (∀ p ∈ ps, p.Ok (1 + k)) ∧ env = [some (W.ref n), some (W.d (PyData.int most)), o2, some (W.d (PyData.int (1 + ↑k))), some (W.d (PyData.tuple (ps.map Page.d))), o5, o6] ∧ DkU g n (m + 1 + 15 * pre.length) g') ⟨[], none, none, none, rfl, by simp, rfl, by simpa using u1⟩ (by
    rintro pre x post hx env g2 ⟨ps, o2, o5, o6, hl, hok, rfl, u⟩
    have hp := pre_len hx
    rw [upto_length] at hp
    have hp' : pre.length < 3 := by omega
    simp [-upto_3]
    clear hr
    generalize hr : forRun C _ _ _ _ _ = o
    obtain ⟨env', g', rfl, ⟨ls, o6, hl', hok', rfl, u'⟩⟩ := invD hr (fun pre' env g' => ∃ (ls : List Line) (o6 : Option W), ls.length = pre'.length ∧ (∀ p ∈ ls, p.Ok (1 + k)) ∧ env = [some (W.ref n), some (W.d (PyData.int most)), some (W.d x), some (W.d (PyData.int (1 + ↑k))), some (W.d (PyData.tuple (ps.map Page.d))), some (W.d (PyData.tuple (ls.map Line.d))), o6] ∧ DkU g n (m + 1 + 15 * pre.length + 5 * pre'.length) g') ⟨[], o6, rfl, by simp, rfl, by simpa using u⟩ (by
      rintro pre' y post' hy env g3 ⟨ls, o6, hl', hok', rfl, u'⟩
      have hp2 := pre_len hy
      rw [upto_length] at hp2
      have hp2 : pre'.length < 3 := by omega
      simp
      clear hr
      generalize hr : C i2 _ _ = o
      obtain ⟨ds, g4, rfl, d1, d2, u2⟩ := h2 hr u'.2 (by omega)
      simp
      clear hr
      generalize hr : C i1 _ _ = o
      obtain ⟨r, g5, rfl, r0, r1', u3⟩ := h1 hr u2.2 (by omega) (by omega) (by omega)
      obtain ⟨q, rfl⟩ := Int.eq_ofNat_of_zero_le r0
      simp [hl', show pre'.length + 1 ≤ 16777216 by omega]
      refine ⟨ls ++ [⟨ds, q⟩], by simp [hl'], fun p hp => ?_, by simp [Line.d], ((u'.trans u2).trans u3).mono (by omega)⟩
      rcases List.mem_append.mp hp with hp | hp
      · exact hok' p hp
      · have e : p = ⟨ds, q⟩ := by simpa using hp
        subst e
        exact ⟨d1, d2, by show q < 1 + k; omega⟩)
    obtain ⟨a, b, c, rfl⟩ := three (xs := ls) (by rw [hl', upto_length])
    simp [hl, show pre.length + 1 ≤ 16777216 by omega]
    refine ⟨ps ++ [⟨a, b, c⟩], by simp [hl], fun p hp => ?_, by simp [Page.d], u'.mono (by simp; omega)⟩
    rcases List.mem_append.mp hp with hp | hp
    · exact hok p hp
    · have e : p = ⟨a, b, c⟩ := by simpa using hp
      subst e
      exact ⟨hok' _ (by simp), hok' _ (by simp), hok' _ (by simp)⟩)
  rw [upto_length] at hl
  have hk' : (1 + (k : Int)).toNat = 1 + k := by omega
  rw [hk'] at hl
  simp [u.take0]
  have hk : ps.length = 1 + k := by omega
  exact ⟨ps, _, ⟨rfl, rfl⟩, ⟨by omega, by omega, by rw [hk]; exact hok⟩, by omega, u.mono (by simp; omega)⟩
abbrev S__law_warm (c : Fc) : Prop := ∀ {n : Nat} {m : Int} {g : Gs} {o : Out W}, c [.ref n] g = o → Dk g n m → m < 800000000 →
  ∃ (b : Book) (g' : Gs), o = .ok (.d (bookD b)) g' ∧ Book.Ok b ∧ b.length = 1 ∧ DkU g n (m + 2) g'
def warmA : List (List Deed) := [[.on, .shut], [.on], [.shut, .on], [.shut]]
def warmB : List (List Deed) := [[.opn, .off], [.off], [.opn], [.off, .opn]]
theorem ev__law_warm {C i1} (h1 : S__law_one (C i1)) : S__law_warm (callD C (d__law_warm i1)) := by
  intro n m g o ho dk hm
  subst ho
  simp [callD, d__law_warm, startE]
  rw [show ([.tuple [.str "on", .str "shut"], .tuple [.str "on"], .tuple [.str "shut", .str "on"], .tuple [.str "shut"]] : List D) = warmA.map (fun ds => .tuple (ds.map Deed.d)) from rfl]
  generalize hr : C i1 _ _ = o
  obtain ⟨x, g1, rfl, hx, u1⟩ := h1 hr dk (by simp [warmA]) (by simp [warmA]) (by omega)
  obtain ⟨ds, hd, rfl⟩ := List.mem_map.mp hx
  simp
  rw [show ([.tuple [.str "open", .str "off"], .tuple [.str "off"], .tuple [.str "open"], .tuple [.str "off", .str "open"]] : List D) = warmB.map (fun ds => .tuple (ds.map Deed.d)) from rfl]
  clear hr
  generalize hr : C i1 _ _ = o
  obtain ⟨x, g2, rfl, hx, u2⟩ := h1 hr u1.2 (by simp [warmB]) (by simp [warmB]) (by omega)
  obtain ⟨es, he, rfl⟩ := List.mem_map.mp hx
  have u := (u1.trans u2).mono (m' := m + 2) (by omega)
  simp [u.take0]
  have hd2 : ds.length ≤ 2 ∧ ds.Nodup := by
    simp [warmA] at hd
    rcases hd with rfl | rfl | rfl | rfl <;> simp
  have he2 : es.length ≤ 2 ∧ es.Nodup := by
    simp [warmB] at he
    rcases he with rfl | rfl | rfl | rfl <;> simp
  refine ⟨[⟨⟨ds, 0⟩, ⟨es, 0⟩, ⟨[], 0⟩⟩], _, ⟨rfl, rfl⟩, ⟨by simp, by simp, fun p hp => ?_⟩, rfl, u⟩
  have e : p = ⟨⟨ds, 0⟩, ⟨es, 0⟩, ⟨[], 0⟩⟩ := by simpa using hp
  subst e
  exact ⟨⟨hd2.1, hd2.2, by simp⟩, ⟨he2.1, he2.2, by simp⟩, ⟨by simp, by simp, by simp⟩⟩
theorem insI_mem {x y : Int} : ∀ {xs : List Int}, y ∈ insI x xs → y = x ∨ y ∈ xs
  | [], h => by simpa [insI] using h
  | z :: r, h => by
    unfold insI at h
    split at h
    · simpa using h
    · rcases List.mem_cons.mp h with h | h
      · exact .inr (by simp [h])
      · rcases insI_mem h with h | h
        · exact .inl h
        · exact .inr (by simp [h])
theorem sortI_mem {y : Int} : ∀ {xs : List Int}, y ∈ sortI xs → y ∈ xs
  | [], h => by simpa [sortI] using h
  | x :: r, h => by
    rcases insI_mem h with h | h
    · simp [h]
    · exact List.mem_cons_of_mem _ (sortI_mem h)
theorem insI_len (x : Int) : ∀ xs : List Int, (insI x xs).length = xs.length + 1
  | [] => rfl
  | z :: r => by
    unfold insI
    split
    · simp
    · simp [insI_len x r]
theorem sortI_len : ∀ xs : List Int, (sortI xs).length = xs.length
  | [] => rfl
  | x :: r => by
    show (insI x (sortI r)).length = _
    rw [insI_len, sortI_len r]; rfl
@[simp] theorem intsD_map : ∀ xs : List Int, intsD (xs.map .int) = some xs
  | [] => rfl
  | x :: r => by simp [intsD, intsD_map r]
theorem biW_sortedI (g : Gs) {xs : List Int} (h : xs.length < 64) : biW .sorted g [.list (xs.map .int)] = newL g ((sortI xs).map .int) := by
  simp [biW, biD, h, newB]
@[simp] theorem take_la (g : Gs) (i : Nat) (j : Gs) : (g ++ j).take (g.length + i) = g ++ j.take i := by
  rw [List.take_append]; simp [List.take_of_length_le (Nat.le_add_right g.length i)]
theorem four {α : Type} {xs : List α} (h : xs.length = 4) : ∃ a b c d, xs = [a, b, c, d] := by
  match xs, h with
  | [a, b, c, d], _ => exact ⟨a, b, c, d, rfl⟩
theorem two {α : Type} {xs : List α} (h : xs.length = 2) : ∃ a b, xs = [a, b] := by
  match xs, h with
  | [a, b], _ => exact ⟨a, b, rfl⟩
abbrev S__law_house (c : Fc) : Prop := ∀ {n : Nat} {most pages m : Int} {g : Gs} {o : Out W}, c [.ref n, .d (.int most), .d (.int pages)] g = o → Dk g n m → 2 ≤ most → most ≤ 4 → 1 ≤ pages → pages ≤ 3 → m < 700000000 →
  ∃ (h : House) (g' : Gs), o = .ok (.d h.d) g' ∧ h.Ok ∧ h.top ≤ most ∧ (h.q0.book.length : Int) ≤ pages ∧ (h.q1.book.length : Int) ≤ pages ∧ DkU g n (m + 200) g'
def wthA : List (List Wth) := [[.cold], [.mild], [.cold, .mild], [.cold, .mild]]
theorem ev__law_house {C i1 i2 i3 i4} (h1 : S__law_pick (C i1)) (h2 : S__law_one (C i2)) (h3 : S__law_warm (C i3)) (h4 : S__law_book (C i4)) : S__law_house (callD C (d__law_house i1 i2 i3 i4)) := by
  intro n most pages m g o ho dk m2 m4 p1 p3 hm
  subst ho
  simp [callD, d__law_house, startE]
  generalize hr : C i1 _ _ = o
  obtain ⟨r, g1, rfl, r0, r1, u1⟩ := h1 hr dk (by omega) (by omega) (by omega)
  simp [-upto_4]
  clear hr
  generalize hr : lcRun C _ _ _ _ _ _ _ = o
  obtain ⟨ys, g2, rfl, zs, hl, hz, rfl, u2⟩ := lcW hr (fun pre ys g' => ∃ zs : List Int, zs.length = pre.length ∧ (∀ z ∈ zs, 0 ≤ z ∧ z ≤ 3) ∧ ys = zs.map .int ∧ DkU g n (m + 1 + pre.length) g') ⟨[], rfl, by simp, rfl, by simpa using u1⟩ (by
    rintro pre x post ys g3 hx ⟨zs, hl, hz, rfl, u⟩
    have hp := pre_len hx
    rw [upto_length] at hp
    simp
    clear hr
    generalize hr : C i1 _ _ = o
    obtain ⟨q, g4, rfl, q0, q1, u2⟩ := h1 hr u.2 (by omega) (by omega) (by omega)
    simp
    exact ⟨zs ++ [q], by simp [hl], fun z hz' => by
      rcases List.mem_append.mp hz' with h | h
      · exact hz z h
      · have : z = q := by simpa using h
        omega, by simp, (u.trans u2).mono (by omega)⟩)
  rw [upto_length] at hl
  have hs := sortI_len zs
  rw [hl] at hs
  obtain ⟨a, b, c, d, es⟩ := four hs
  have hm' : ∀ z ∈ [a, b, c, d], 0 ≤ z ∧ z ≤ 3 := fun z hz' => hz z (sortI_mem (es ▸ hz'))
  simp [biW_sortedI _ (show zs.length < 64 by omega), es]
  rw [show ([.tuple [.str "cold"], .tuple [.str "mild"], .tuple [.str "cold", .str "mild"], .tuple [.str "cold", .str "mild"]] : List D) = wthA.map (fun ds => .tuple (ds.map Wth.d)) from rfl]
  generalize [some (Ob.lst (List.map PyData.int zs)), some (Ob.lst [PyData.int a, PyData.int b, PyData.int c, PyData.int d])] = J
  rw [upto_length] at u2
  clear hr
  generalize hr : C i2 _ _ = o
  obtain ⟨x, g3, rfl, hx, u3⟩ := h2 hr (u2.2.app J) (by simp [wthA]) (by simp [wthA]) (by omega)
  obtain ⟨ws, hw, rfl⟩ := List.mem_map.mp hx
  obtain ⟨g4, rfl, u4⟩ := u3.split u2.2.lt
  have u5 := (u2.trans u4).mono (m' := m + 10) (by omega)
  simp [-upto_2]
  clear hr
  generalize hr : forRun C _ _ _ _ _ = o
  obtain ⟨env', g', rfl, ⟨ps, o7, o8, o9, o10, hl6, hok, rfl, g6, rfl, u6⟩⟩ := invD hr (fun pre env g' => ∃ (ps : List Pers) (o7 o8 o9 o10 : Option W), ps.length = pre.length ∧ (∀ p ∈ ps, p.Ok (2 + r) ∧ (p.book.length : Int) ≤ pages) ∧ env = [some (W.ref n), some (W.d (PyData.int most)), some (W.d (PyData.int pages)), some (W.d (PyData.int (2 + r))), some (W.d (PyData.tuple [PyData.int a, PyData.int b, PyData.int c, PyData.int d])), some (W.d (PyData.tuple (List.map Wth.d ws))), some (W.d (PyData.tuple (ps.map Pers.d))), o7, o8, o9, o10, none] ∧ ∃ g6, g' = g6 ++ J ∧ DkU g n (m + 10 + 60 * pre.length) g6) ⟨[], none, none, none, none, rfl, by simp, rfl, g4, rfl, by simpa using u5⟩ (by
    rintro pre x post hx env g' ⟨ps, o7, o8, o9, o10, hl, hok, rfl, g6, rfl, u6⟩
    have hp := pre_len hx
    rw [upto_length] at hp
    simp
    clear hr
    generalize hr : C i1 _ _ = o
    obtain ⟨lo, g7, rfl, lo0, lo1, v7⟩ := h1 hr (u6.2.app J) (by omega) (by omega) (by omega)
    obtain ⟨g7, rfl, u7⟩ := v7.split u6.2.lt
    simp
    clear hr
    generalize hr : C i1 _ _ = o
    obtain ⟨hi, g8, rfl, hi0, hi1, v8⟩ := h1 hr (u7.2.app J) (by omega) (by omega) (by omega)
    obtain ⟨g8, rfl, u8⟩ := v8.split u7.2.lt
    simp
    clear hr
    generalize hr : C i1 _ _ = o
    obtain ⟨z, g9, rfl, z0, z1, v9⟩ := h1 hr (u8.2.app J) (by omega) (by omega) (by omega)
    obtain ⟨g9, rfl, u9⟩ := v9.split u8.2.lt
    have u10 := (((u6.trans u7).trans u8).trans u9)
    have fin : ∀ (bk : Book) (g11 : Gs), Book.Ok bk → (bk.length : Int) ≤ pages → DkU g n (m + 10 + 60 * pre.length + 53) g11 → Nx
        (evSs C
          (Sts.cons
            (St.set (Tg.nm 6)
              (Ex.bin BO.add (Ex.var 6)
                (Ex.tup
                  (Exs.cons
                    (Ex.tup
                      (Exs.cons
                        (Ex.bin BO.add (Ex.cst (PyData.int 1))
                          (Ex.call i1 (Exs.cons (Ex.var 0) (Exs.cons (Ex.cst (PyData.int 2)) Exs.nil))))
                        (Exs.cons (Ex.var 8) (Exs.cons (Ex.var 9) (Exs.cons (Ex.var 10) Exs.nil)))))
                    Exs.nil))))
            Sts.nil) [some (W.ref n), some (W.d (PyData.int most)), some (W.d (PyData.int pages)), some (W.d (PyData.int (2 + r))), some (W.d (PyData.tuple [PyData.int a, PyData.int b, PyData.int c, PyData.int d])), some (W.d (PyData.tuple (List.map Wth.d ws))), some (W.d (PyData.tuple (ps.map Pers.d))), some (W.d x), some (W.d (PyData.int lo)), some (W.d (PyData.int (lo + hi))), some (W.d (bookD bk)), none] (g11 ++ J)) (fun env g' => ∃ (ps : List Pers) (o7 o8 o9 o10 : Option W), ps.length = pre.length + 1 ∧ (∀ p ∈ ps, p.Ok (2 + r) ∧ (p.book.length : Int) ≤ pages) ∧ env = [some (W.ref n), some (W.d (PyData.int most)), some (W.d (PyData.int pages)), some (W.d (PyData.int (2 + r))), some (W.d (PyData.tuple [PyData.int a, PyData.int b, PyData.int c, PyData.int d])), some (W.d (PyData.tuple (List.map Wth.d ws))), some (W.d (PyData.tuple (ps.map Pers.d))), o7, o8, o9, o10, none] ∧ ∃ g6, g' = g6 ++ J ∧ DkU g n (m + 10 + 60 * (pre.length + 1)) g6) := by
      intro bk g11 bok bl u11
      simp
      clear hr
      generalize hr : C i1 _ _ = o
      obtain ⟨bt, g12, rfl, bt0, bt1, v12⟩ := h1 hr (u11.2.app J) (by omega) (by omega) (by omega)
      obtain ⟨g12, rfl, u12⟩ := v12.split u11.2.lt
      simp [hl, show pre.length + 1 ≤ 16777216 by omega]
      refine ⟨ps ++ [⟨1 + bt, lo, lo + hi, bk⟩], by simp [hl], fun p hp => ?_, by simp [Pers.d], (u11.trans u12).mono (by omega)⟩
      rcases List.mem_append.mp hp with hp | hp
      · exact hok p hp
      · have e : p = ⟨1 + bt, lo, lo + hi, bk⟩ := by simpa using hp
        subst e
        exact ⟨⟨by show 1 ≤ 1 + bt; omega, by show 1 + bt ≤ 2; omega, lo0, by show lo ≤ lo + hi; omega, by show lo + hi ≤ 2 + r; omega, bok⟩, bl⟩
    simp
    by_cases hz0 : z = 0
    · simp [hz0]
      clear hr
      generalize hr : C i3 _ _ = o
      obtain ⟨bk, g11, rfl, bok, bl, v11⟩ := h3 hr (u9.2.app J) (by omega)
      obtain ⟨g11, rfl, u11⟩ := v11.split u9.2.lt
      simpa using fin bk g11 bok (by omega) ((u10.trans u11).mono (by omega))
    · simp [hz0]
      clear hr
      generalize hr : C i4 _ _ = o
      obtain ⟨bk, g11, rfl, bok, bl, v11⟩ := h4 hr (u9.2.app J) p1 p3 (by omega)
      obtain ⟨g11, rfl, u11⟩ := v11.split u9.2.lt
      simpa using fin bk g11 bok bl ((u10.trans u11).mono (by omega)))
  rw [upto_length] at hl6
  obtain ⟨q0, q1, rfl⟩ := two hl6
  simp
  clear hr
  generalize hr : C i1 _ _ = o
  obtain ⟨ht, g7, rfl, ht0, ht1, v7⟩ := h1 hr (u6.2.app J) (by omega) (by omega) (by simp; omega)
  obtain ⟨g7, rfl, u7⟩ := v7.split u6.2.lt
  have u := (u6.trans u7).mono (m' := m + 200) (by simp; omega)
  simp [u.take]
  have k0 := hok q0 (by simp)
  have k1 := hok q1 (by simp)
  refine ⟨⟨2 + r, 1 + ht, a, b, c, d, ws, q0, q1⟩, _, ⟨rfl, rfl⟩, ⟨by show 2 ≤ 2 + r; omega, by show 2 + r ≤ 4; omega, by show 1 ≤ 1 + ht; omega, by show 1 + ht ≤ 3; omega, hm' a (by simp), hm' b (by simp), hm' c (by simp), hm' d (by simp), ?_, k0.1, k1.1⟩, by show 2 + r ≤ most; omega, k0.2, k1.2, u⟩
  simp [wthA] at hw
  rcases hw with rfl | rfl | rfl <;> simp
abbrev S__law_frac (c : Fc) : Prop := ∀ (a b : Int) g, 0 ≤ a → 0 < b → b < 4611686018427387904 → c [.d (.int a), .d (.int b)] g = .ok (.d (frD (lowA a b) (lowB a b))) g
theorem ev__law_frac {C} : S__law_frac (callD C d__law_frac) := by
  intro a b g ha hb hb2
  simp [callD, d__law_frac, startE]
  generalize hr : whlRun C _ _ _ _ _ = r
  obtain ⟨env', g', g'', rfl, ⟨a', b', rfl, hg, h1, h2, h3, rfl⟩, he, ⟨_, _, _, _, _, _, _, rfl⟩⟩ := whlW hr (fun env g1 => ∃ a' b' : Int, env = [some (.d (.int a)), some (.d (.int b)), some (.d (.int a')), some (.d (.int b'))] ∧ Int.gcd a' b' = Int.gcd a b ∧ 0 ≤ a' ∧ 0 ≤ b' ∧ b' ≤ b ∧ g1 = g) (fun env => match env with
      | [_, _, _, some (.d (.int b'))] => b'.toNat
      | _ => 0) ⟨a, b, rfl, rfl, ha, by omega, by omega, rfl⟩ (by simp only [turns]; omega) (by
      rintro env g1 ⟨a', b', rfl, hg, h1, h2, h3, rfl⟩
      simp
      refine ⟨fun h => ?_, fun _ => ⟨_, _, ⟨rfl, rfl⟩, hg, h1, h2, h3⟩⟩
      simp [binW_mod h]
      have := Int.emod_lt_of_pos a' h
      have := Int.emod_nonneg a' (b := b') (by omega)
      exact ⟨⟨_, _, ⟨rfl, rfl⟩, by rw [gcd_step, hg], h2, by omega, by omega⟩, by omega⟩)
  simp at he
  have : b' = 0 := by omega
  subst this
  have e : a' = (Int.gcd a b : Int) := by
    rw [← hg]
    simp; omega
  subst e
  have h2 := divOk_of (gcd_pos (a := a) hb) (by have := gcd_le (a := a) hb; omega)
  simp [binW_fdiv h2, frD, lowA, lowB]
abbrev S__law_run (c : Fc) : Prop := ∀ {n : Nat} {most m : Int} {h : House} {g : Gs} {o : Out W}, c [.ref n, .d h.d, .d (.int most)] g = o → Dk g n m → h.Ok → 0 ≤ most → most ≤ 100 → m < 600000000 →
  ∃ (ws : List Wth) (g' : Gs), o = .ok (.d (runD ws)) g' ∧ (ws.length : Int) ≤ most ∧ (∀ w ∈ ws, w ∈ h.ws) ∧ DkU g n (m + 102) g'
theorem ev__law_run {C i1 i2} (h1 : S__law_one (C i1)) (h2 : S__law_pick (C i2)) : S__law_run (callD C (d__law_run i1 i2)) := by
  intro n most m h g o ho dk k m0 m1 hm
  subst ho
  simp [callD, d__law_run, startE]
  generalize hr : C i2 _ _ = o
  obtain ⟨r, g1, rfl, r0, r1, u1⟩ := h2 hr dk (by omega) (by omega) (by omega)
  obtain ⟨q, rfl⟩ := Int.eq_ofNat_of_zero_le r0
  simp [kRng_of (n := (q : Int)) (by omega) (by omega), show q ≤ 16777216 by omega]
  clear hr
  generalize hr : lcRun C _ _ _ _ _ _ _ = o
  obtain ⟨ys, g2, rfl, ws, hl, hz, rfl, u2⟩ := lcW hr (fun pre ys g' => ∃ ws : List Wth, ws.length = pre.length ∧ (∀ w ∈ ws, w ∈ h.ws) ∧ ys = ws.map Wth.d ∧ DkU g n (m + 1 + pre.length) g') ⟨[], rfl, by simp, rfl, by simpa using u1⟩ (by
    rintro pre x post ys g3 hx ⟨ws, hl, hz, rfl, u⟩
    have hp := pre_len hx
    rw [upto_length] at hp
    have f1 : ∀ g, idxO g h.d (.int 1) = .ok (.d (.tuple (h.ws.map Wth.d))) g := fun _ => rfl
    have hw : h.ws ≠ [] ∧ h.ws.length < 10 := by rcases k.ws with e | e | e <;> rw [e] <;> simp
    simp [f1]
    clear hr
    generalize hr : C i1 _ _ = o
    obtain ⟨y, g4, rfl, hy, u2⟩ := h1 hr u.2 (by simpa using hw.1) (by simp; omega) (by omega)
    obtain ⟨w, hw, rfl⟩ := List.mem_map.mp hy
    simp
    exact ⟨ws ++ [w], by simp [hl], fun z hz' => by
      rcases List.mem_append.mp hz' with h | h
      · exact hz z h
      · have : z = w := by simpa using h
        rw [this]; exact hw, by simp, (u.trans u2).mono (by omega)⟩)
  rw [upto_length] at hl u2
  simp [u2.take]
  exact ⟨ws, _, ⟨rfl, rfl⟩, by omega, hz, u2.mono (by omega)⟩
end RF
end
section
set_option Elab.async false
set_option linter.all false
set_option maxRecDepth 100000
/-! The laws' own reading of ticks is the program's. -/
namespace RF
open PySem
theorem gcd_one_dvd {a b : Int} (b0 : 0 < b) (h : Int.gcd a b = 1) : a = a / b * b ↔ b = 1 := by
  constructor
  · intro e
    have hd : b ∣ a := ⟨a / b, by rw [Int.mul_comm]; exact e⟩
    have := Int.gcd_eq_right_iff_dvd (by omega) |>.mpr hd
    rw [h] at this
    omega
  · rintro rfl
    simp
abbrev S__law_level (c : Fc) : Prop := ∀ (a b : Int) g, 0 ≤ a → a ≤ 10 ^ 30 → 0 < b → b < 10 ^ 15 → Int.gcd a b = 1 → c [.d (frD a b)] g = .ok (.d (.int (levelOf a b))) g
theorem ev__law_level {C} : S__law_level (callD C d__law_level) := by
  intro a b g a0 a1 b0 b1 hg
  have d := divOk_of b0 (by omega)
  have m : ∀ x : Int, 0 ≤ x → x ≤ 10 ^ 30 → mulOk 2 x = true := fun x h0 h1 => mulOk_of (small (by omega) (by omega)) (small (by omega) (by omega))
  have q0 : 0 ≤ a / b := Int.ediv_nonneg a0 (by omega)
  have q1 : a / b ≤ a := Int.ediv_le_self _ a0
  simp [callD, d__law_level, startE, frD, binW_fdiv d, binW_mul (m (a / b) q0 (by omega))]
  by_cases h : b = 1
  · subst h
    simp [levelOf]
  · have h2 : ¬ a = a / b * b := fun e => h ((gcd_one_dvd b0 hg).mp e)
    simp [h, levelOf, h2]
abbrev S__law_begin (c : Fc) : Prop := ∀ (a b : Int) (he wi : Bool) g, 0 ≤ a → a ≤ 10 ^ 30 → 0 < b → b < 10 ^ 15 → Int.gcd a b = 1 → c [.d (startD a b he wi)] g = .ok (.d (Stand.start (levelOf a b) he wi).d) g
theorem ev__law_begin {C i1} (h1 : S__law_level (C i1)) : S__law_begin (callD C (d__law_begin i1)) := by
  intro a b he wi g a0 a1 b0 b1 hg
  simp [callD, d__law_begin, startE, startD, h1 a b _ a0 a1 b0 b1 hg, Stand.d, Stand.start]
def feelT (n : Nat) : Str := if n = 0 then "cold" else if n = 1 then "hot" else "well"
abbrev S__law_feel (c : Fc) : Prop := ∀ (p : Pers) (top level : Int) g, p.Ok top → top ≤ 4 → c [.d p.d, .d (.int level)] g = .ok (.d (.str (feelT (feel p level)))) g
theorem ev__law_feel {C} : S__law_feel (callD C d__law_feel) := by
  intro p top l g k ht
  have c0 := k.c0; have h0 := k.c1; have h1 := k.c2
  have m1 : mulOk 2 p.cold = true := mulOk_of (small (by omega) (by omega)) (small (by omega) (by omega))
  have m2 : mulOk 2 p.hot = true := mulOk_of (small (by omega) (by omega)) (small (by omega) (by omega))
  simp [callD, d__law_feel, startE, Pers.d, binW_mul m1, binW_mul m2, feel]
  by_cases x : l < 2 * p.cold
  · simp [x, feelT]
  · simp [x, binW_mul m2]
    by_cases y : 2 * p.hot < l <;> simp [y, feelT]
abbrev S__law_set (c : Fc) : Prop := ∀ (x : Bool × Bool) (o : Option Deed) g, c [.d (devD x), .d (.str (oS o))] g = .ok (.d (devD (chg x.1 x.2 o))) g
theorem ev__law_set {C} : S__law_set (callD C d__law_set) := by
  intro x o g
  cases o with
  | none => simp [callD, d__law_set, startE, devD, oS, chg, PyData.depth]
  | some o => cases o <;> simp [callD, d__law_set, startE, devD, oS, chg, Deed.str, PyData.depth]
abbrev S__law_looks (c : Fc) : Prop := ∀ (h : House) (s : Stand) (who : Bool) g, h.Ok → c [.d h.d, .d s.d, .d (.int (wI who))] g = .ok (.d (.bool (decide (s.phase % (h.per who).beat = 0)))) g
theorem ev__law_looks {C} : S__law_looks (callD C d__law_looks) := by
  intro h s who g k
  have b := (k.per who).b1
  have f2 : ∀ g, idxO g h.d (.int 2) = .ok (.d (.tuple [h.q0.d, h.q1.d])) g := fun _ => rfl
  have e3 : ∀ g, idxO g s.d (.int 3) = .ok (.d (.int s.phase)) g := fun _ => rfl
  have e0 : ∀ g, idxO g (h.per who).d (.int 0) = .ok (.d (.int (h.per who).beat)) g := fun _ => rfl
  simp [callD, d__law_looks, startE, f2, e3, per_d, e0, binW_mod (show 0 < (h.per who).beat by omega), PyData.depth]
abbrev S__law_period (c : Fc) : Prop := ∀ (h : House) g, h.Ok → c [.d h.d] g = .ok (.d (.int h.period)) g
theorem ev__law_period {C} : S__law_period (callD C d__law_period) := by
  intro h g k
  have b0 := k.q0.b1; have b1 := k.q0.b2; have b2 := k.q1.b1; have b3 := k.q1.b2
  obtain ⟨qs, hq⟩ : ∃ qs, qs = [h.q0, h.q1] := ⟨_, rfl⟩
  have f2 : ∀ g, idxO g h.d (.int 2) = .ok (.d (.tuple (qs.map Pers.d))) g := fun _ => by rw [hq]; rfl
  have hl : qs.length = 2 := by rw [hq]; rfl
  simp [callD, d__law_period, startE, f2, hl]
  rw [lcm_map (fun p => .int p.beat) fun t _ => ⟨_, rfl, by simp [Pers.d]⟩]
  rcases (by omega : h.q0.beat = 1 ∨ h.q0.beat = 2) with e | e <;> rcases (by omega : h.q1.beat = 1 ∨ h.q1.beat = 2) with e' | e' <;> simp [hq, e, e', House.period, PyData.depth, PyData.depthAll, depthOk] <;> rfl
abbrev S__law_gain (c : Fc) : Prop := ∀ (h : House) (s : Stand) (w : Wth) g, h.Ok → c [.d h.d, .d s.d, .d w.d] g = .ok (.d (.int (changeOf h s w))) g
theorem ev__law_gain {C} : S__law_gain (callD C d__law_gain) := by
  intro h s w g k
  obtain ⟨l, he, wi, ph, p0, p1⟩ := s
  cases he <;> cases wi <;> cases w <;> simp [callD, d__law_gain, startE, House.d, Stand.d, Wth.d, Wth.str, changeOf, House.loss]
abbrev S__law_warmed (c : Fc) : Prop := ∀ (h : House) (s : Stand) (w : Wth) g, h.Ok → c [.d h.d, .d s.d, .d w.d] g = .ok (.d (passed h s w).d) g
theorem ev__law_warmed {C i1 i2} (h1 : S__law_gain (C i1)) (h2 : S__law_period (C i2)) : S__law_warmed (callD C (d__law_warmed i1 i2)) := by
  intro h s w g k
  have c := change_le k s w
  have m1 : mulOk 2 (changeOf h s w) = true := mulOk_of (small (by omega) (by omega)) (small (by omega) (by omega))
  have m2 : mulOk 2 h.top = true := mulOk_of (small (by omega) (by omega)) (small (by have := k.t2; omega) (by have := k.t4; omega))
  have e0 : ∀ g, idxO g s.d (.int 0) = .ok (.d (.int s.level)) g := fun _ => rfl
  have e1 : ∀ g, idxO g s.d (.int 1) = .ok (.d (.bool s.heater)) g := fun _ => rfl
  have e2 : ∀ g, idxO g s.d (.int 2) = .ok (.d (.bool s.window)) g := fun _ => rfl
  have e3 : ∀ g, idxO g s.d (.int 3) = .ok (.d (.int s.phase)) g := fun _ => rfl
  have e4 : ∀ g, idxO g s.d (.int 4) = .ok (.d (.tuple [.int s.p0, .int s.p1])) g := fun _ => rfl
  have f0 : ∀ g, idxO g h.d (.int 0) = .ok (.d (.tuple [.int h.top, .int h.heat, .tuple [.int h.l0, .int h.l1, .int h.l2, .int h.l3]])) g := fun _ => rfl
  simp [callD, d__law_warmed, startE, e0, e1, e2, e3, e4, f0, h1 h s w _ k, h2 h _ k, binW_mul m1, binW_mul m2, binW_mod (period_pos k), passed]
  rfl
/-- the deed is searched for in the law by a loop -/
theorem firstChg_fold (he wi : Bool) : ∀ (ds : List Deed) (o : Option Deed), ds.foldl (fun o d => if o = none ∧ ¬ chg he wi (some d) = (he, wi) then some d else o) o = match o with
    | some x => some x
    | none => firstChg he wi ds
  | [], o => by cases o <;> rfl
  | d :: ds, o => by
    rw [List.foldl_cons, firstChg_fold he wi ds]
    cases o with
    | some x => simp
    | none =>
      simp only [firstChg, List.find?_cons]
      by_cases c : chg he wi (some d) = (he, wi) <;> simp [c]
abbrev S__law_look (c : Fc) : Prop := ∀ (h : House) (s : Stand) (who : Bool) g, h.Ok → s.Ok h → c [.d h.d, .d s.d, .d (.int (wI who))] g = .ok (.d (lookD (looked h s who))) g
theorem feelT_ix (g : Gs) (n : Nat) (h : n < 3) : meW .index g (.list [.str "cold", .str "hot", .str "well"]) (.str (feelT n)) = .ok (.d (.int n)) g := by
  have a0 : SeqAt.shaped (.list [.str "cold", .str "hot", .str "well"]) = true := by decide +kernel
  have a1 : SeqAt.shaped (.str "cold") = true := by decide +kernel
  have a2 : SeqAt.shaped (.str "hot") = true := by decide +kernel
  have a3 : SeqAt.shaped (.str "well") = true := by decide +kernel
  rcases (by omega : n = 0 ∨ n = 1 ∨ n = 2) with rfl | rfl | rfl <;> simp [meW, meD, feelT, a0, a1, a2, a3, firstIx]
theorem ev__law_look {C i1 i2 i3} (h1 : S__law_looks (C i1)) (h2 : S__law_feel (C i2)) (h3 : S__law_set (C i3)) : S__law_look (callD C (d__law_look i1 i2 i3)) := by
  intro h s who g k o
  simp [callD, d__law_look, startE, h1 h s who g k]
  by_cases c : s.phase % (h.per who).beat = 0
  · have f2 : ∀ g, idxO g h.d (.int 2) = .ok (.d (.tuple [h.q0.d, h.q1.d])) g := fun _ => rfl
    have e0 : ∀ g, idxO g s.d (.int 0) = .ok (.d (.int s.level)) g := fun _ => rfl
    have e3 : ∀ g, idxO g s.d (.int 3) = .ok (.d (.int s.phase)) g := fun _ => rfl
    have e4 : ∀ g, idxO g s.d (.int 4) = .ok (.d (.tuple [.int s.p0, .int s.p1])) g := fun _ => rfl
    have b3 : ∀ g, idxO g (h.per who).d (.int 3) = .ok (.d (bookD (h.per who).book)) g := fun _ => rfl
    have s1 : ∀ g, sliceW g s.d (some 1) (some 3) = .ok (.d (devD (s.heater, s.window))) g := fun _ => rfl
    simp [c, f2, e0, e4, per_d, pg_d, b3, h2 (h.per who) h.top s.level _ (k.per who) k.t4, feelT_ix _ _ (feel_lt (h.per who) s.level), idx_book (o.pg who), idx_page (feel_lt (h.per who) s.level)]
    simp [Line.d]
    rw [show (bookAt (h.per who).book (s.pg who)).at (feel (h.per who) s.level) = lineNow h s who from rfl]
    generalize hL : lineNow h s who = L
    generalize hr : forRun C _ _ _ _ _ = r
    obtain ⟨env', g', rfl, ⟨o4, rfl⟩, rfl⟩ := foldW hr (fun o d => if o = none ∧ ¬ chg s.heater s.window (some d) = (s.heater, s.window) then some d else o) (fun o' env g' => (∃ o4, env = [some (W.d h.d), some (W.d s.d), some (W.d (PyData.int (wI who))), some (W.d (.str (oS o'))), o4, none, none, some (W.d (h.per who).d), some (W.d (PyData.int (s.pg who))), some (W.d (.tuple (L.tr.map Deed.d))), some (W.d (.int L.to))]) ∧ g' = g ++ [some (.lst [.str "cold", .str "hot", .str "well"])]) (s := none) ⟨⟨_, rfl⟩, rfl⟩ (by
      rintro d hd o' env g' ⟨⟨o4, rfl⟩, rfl⟩
      have h3' := fun g => h3 (s.heater, s.window) (some d) g
      cases o' with
      | none =>
        simp [oS, PyData.depth]
        simp only [oS] at h3'
        simp [Deed.d, s1, h3', devD_depth, depthOk, devD_eqv]
        by_cases c : chg s.heater s.window (some d) = (s.heater, s.window) <;> simp [c, oS]
      | some x => cases x <;> simp [oS, Deed.str, PyData.depth])
    rw [firstChg_fold]
    have h3' := fun g => h3 (s.heater, s.window) (firstChg s.heater s.window L.tr) g
    simp only at h3'
    clear hr
    cases who <;> simp [wI, s1, h3', e0, e3, e4, PyData.depth, depthOk]
    all_goals simp [devD, lookD, looked, c, hL, Stand.d]
  · simp [c, lookD, looked, oS]
abbrev S__law_tick (c : Fc) : Prop := ∀ (h : House) (s : Stand) (w : Wth) g, h.Ok → s.Ok h → c [.d h.d, .d s.d, .d w.d] g = .ok (.d (.tuple [(passed h (stepM h s).1 w).d, deedsD2 (stepM h s).2.1 (stepM h s).2.2, (stepM h s).1.d])) g
theorem ev__law_tick {C i1 i2} (h1 : S__law_look (C i1)) (h2 : S__law_warmed (C i2)) : S__law_tick (callD C (d__law_tick i1 i2)) := by
  intro h s w g k o
  have a := h1 h s false g k o
  have b := h1 h (looked h s false).1 true g k (looked_ok k o false)
  simp only [wI, lookD] at a b
  simp at a b
  simp [callD, d__law_tick, startE, a, b, h2 h _ w _ k, stepM, deedsD2]
/-! ### the law's rows -/
def Tick.ld (h : House) (t : Tick) : D := .tuple [frD t.a t.b, t.s.d, deedsD2 t.mine t.yours, (stepM h t.s).1.d]
def lledD (h : House) (x : Led) : D := .tuple [.list (x.rows.map (Tick.ld h)), .tuple [frD x.a x.b, x.s.d]]
/-- rows and warmths in lowest terms -/
structure LedG (x : Led) : Prop where
  g : Int.gcd x.a x.b = 1
  r : ∀ t ∈ x.rows, Int.gcd t.a t.b = 1
theorem low_gcd {a b : Int} (b0 : 0 < b) : Int.gcd (lowA a b) (lowB a b) = 1 := by
  unfold lowA lowB
  exact Int.gcd_ediv_gcd_ediv_gcd (Int.gcd_pos_of_ne_zero_right _ (by omega))
theorem ledStep_g {h : House} (k : h.Ok) {x : Led} (o : x.Ok h) (q : LedG x) (w : Wth) : LedG (ledStep h x w) :=
  ⟨low_gcd o.f.b0, fun t ht => by
    rcases List.mem_append.mp ht with ht | ht
    · exact q.r t ht
    · have : t = _ := List.mem_singleton.mp ht
      subst this
      exact q.g⟩
theorem ledFold_g {h : House} (k : h.Ok) : ∀ (ws : List Wth) {x : Led}, x.Ok h → LedG x → LedG (ws.foldl (ledStep h) x)
  | [], _, _, q => q
  | w :: ws, _, o, q => ledFold_g k ws (ledStep_ok k o w) (ledStep_g k o q w)
theorem ledM_g {h : House} (k : h.Ok) {a b : Int} (f : Fr.Ok h.top a b) (hg : Int.gcd a b = 1) (he wi : Bool) (ws : List Wth) : LedG (ledM h a b he wi ws) :=
  ledFold_g k ws (led0_ok k f he wi) ⟨hg, fun t ht => by cases ht⟩
theorem low_top {t b : Int} (b0 : 0 < b) (t0 : 0 ≤ t) : lowA (t * b) b = t ∧ lowB (t * b) b = 1 := by
  have e : (Int.gcd (t * b) b : Int) = b := by
    have : Int.gcd (t * b) b = b.natAbs := by
      rw [show t * b = t * b from rfl, Int.gcd_comm]
      simp
    omega
  unfold lowA lowB
  rw [e, Int.mul_ediv_cancel _ (by omega), Int.ediv_self (by omega)]
  exact ⟨rfl, rfl⟩
abbrev S__law_led (c : Fc) : Prop := ∀ (h : House) (a b : Int) (he wi : Bool) (ws : List Wth) g, h.Ok → Fr.Ok h.top a b → Int.gcd a b = 1 → ws.length ≤ 100 → c [.d h.d, .d (startD a b he wi), .d (runD ws)] g = .ok (.d (lledD h (ledM h a b he wi ws))) g
theorem ev__law_led {C i1 i2 i3 i4} (h1 : S__law_begin (C i1)) (h2 : S__law_tick (C i2)) (h3 : S__law_gain (C i3)) (h4 : S__law_frac (C i4)) : S__law_led (callD C (d__law_led i1 i2 i3 i4)) := by
  intro h a b he wi ws g k f hg hw
  have big := f.big k.t4
  have e1 := h1 a b he wi g f.a0 big.1 f.b0 big.2 hg
  have e0 : ∀ g, idxO g (startD a b he wi) (.int 0) = .ok (.d (frD a b)) g := fun _ => rfl
  simp [callD, d__law_led, startE, e0, e1, runD]
  generalize hr : forRun C _ _ _ _ _ = r
  obtain ⟨env', g', rfl, ⟨o3, o7, o8, o9, o10, o11, rfl⟩, rfl⟩ := invW hr (fun pre env g' => (∃ o3 o7 o8 o9 o10 o11, env = [some (W.d h.d), some (W.d (startD a b he wi)), some (W.d (PyData.tuple (List.map Wth.d ws))), o3, some (W.d (frD (ledM h a b he wi pre).a (ledM h a b he wi pre).b)), some (W.d (ledM h a b he wi pre).s.d), some (W.ref (List.length g)), o7, o8, o9, o10, o11]) ∧ g' = g ++ [some (.lst ((ledM h a b he wi pre).rows.map (Tick.ld h)))]) ⟨⟨_, _, _, _, _, _, rfl⟩, rfl⟩ (by
    rintro pre w post hws env g' ⟨⟨o3, o7, o8, o9, o10, o11, rfl⟩, rfl⟩
    obtain ⟨ok, len⟩ := ledM_ok k f he wi pre
    have e : ledM h a b he wi (pre ++ [w]) = ledStep h (ledM h a b he wi pre) w := by simp [ledM]
    rw [e]
    have hl : pre.length < 100 := by rw [hws] at hw; simp at hw; omega
    generalize ledM h a b he wi pre = x at *
    have big := ok.f.big k.t4
    have cl := change_le k (stepM h x.s).1 w
    have b0 := ok.f.b0
    have f0 : ∀ g, idxO g h.d (.int 0) = .ok (.d (.tuple [.int h.top, .int h.heat, .tuple [.int h.l0, .int h.l1, .int h.l2, .int h.l3]])) g := fun _ => rfl
    have g0 : ∀ g, idxO g (frD x.a x.b) (.int 0) = .ok (.d (.int x.a)) g := fun _ => rfl
    have g1 : ∀ g, idxO g (frD x.a x.b) (.int 1) = .ok (.d (.int x.b)) g := fun _ => rfl
    have m1 : mulOk (changeOf h (stepM h x.s).1 w) x.b = true := mulOk_of (small (by omega) (by omega)) (small (by omega) (by omega))
    have m2 : mulOk h.top x.b = true := mulOk_of (small (by have := k.t2; omega) (by have := k.t4; omega)) (small (by omega) (by omega))
    have t0 : 0 ≤ h.top * x.b := Int.mul_nonneg (by have := k.t2; omega) (by omega)
    simp [h2 h x.s w _ k ok.s]
    simp [kApp_eq C _ (get_new g _), kApp3_eq _ (get_new g _), len, show pre.length < 16777216 by omega, h3 h _ w _ k, f0, g0, g1, binW_mul m1, binW_mul m2]
    by_cases q : h.top * x.b < max 0 (x.a + changeOf h (stepM h x.s).1 w * x.b)
    · have e2 : movedN h x.a x.b (changeOf h (stepM h x.s).1 w) = h.top * x.b := by unfold movedN; omega
      obtain ⟨l1, l2⟩ := low_top b0 (t := h.top) (by have := k.t2; omega)
      simp [q, ledStep, e2, l1, l2, Tick.ld, frD]
    · have e2 : movedN h x.a x.b (changeOf h (stepM h x.s).1 w) = max 0 (x.a + changeOf h (stepM h x.s).1 w * x.b) := by unfold movedN; omega
      have l := fun g => h4 (max 0 (x.a + changeOf h (stepM h x.s).1 w * x.b)) x.b g (by omega) b0 (by omega)
      simp [q, l, ledStep, e2, Tick.ld])
  simp [kFrzv_eq _ (get_new g _), lledD]
end RF
end
section
set_option Elab.async false
set_option linter.all false
set_option maxRecDepth 100000
/-! The laws' comparison, starts, what a run's words are. -/
namespace RF
open PySem
def sortN : D → Int
  | .bool _ => 1
  | .int _ => 2
  | .str _ => 3
  | .list _ => 4
  | .tuple _ => 5
  | _ => 6
abbrev S__law_sort (c : Fc) : Prop := ∀ x g, c [.d x] g = .ok (.d (.int (sortN x))) g
theorem ev__law_sort {C} : S__law_sort (callD C d__law_sort) := by
  intro x g
  cases x <;> simp [callD, d__law_sort, startE, isTy, sortN]
mutual
/-- what the laws compare -/
inductive Cm : D → Prop where
  | int (i : Int) : Cm (.int i)
  | str (s : Str) : Cm (.str s)
  | bool (b : Bool) : Cm (.bool b)
  | none : Cm .none
  | tup {xs : List D} (h : Cms xs) (l : xs.length ≤ 10000) : Cm (.tuple xs)
  | lst {xs : List D} (h : Cms xs) (l : xs.length ≤ 10000) : Cm (.list xs)
inductive Cms : List D → Prop where
  | nil : Cms []
  | cons {x : D} {xs : List D} (h : Cm x) (t : Cms xs) : Cms (x :: xs)
end
theorem Cms.mem {xs : List D} (h : Cms xs) : ∀ x ∈ xs, Cm x := by
  induction xs with
  | nil => intro x hx; cases hx
  | cons y ys ih =>
    cases h with
    | cons h t =>
      intro x hx
      rcases List.mem_cons.mp hx with rfl | hx
      · exact h
      · exact ih t x hx
theorem Cms.of {xs : List D} (h : ∀ x ∈ xs, Cm x) : Cms xs := by
  induction xs with
  | nil => exact .nil
  | cons y ys ih => exact .cons (h y List.mem_cons_self) (ih fun x hx => h x (List.mem_cons_of_mem _ hx))
abbrev S__law_same (k : Nat) (c : Fc) : Prop := ∀ x g, Cm x → x.depth < k → c [.d x, .d x] g = .ok (.d (.bool true)) g
theorem depth_mem {x : D} : ∀ {xs : List D}, x ∈ xs → x.depth ≤ PyData.depthAll xs
  | y :: ys, h => by
    rw [PyData.depthAll]
    rcases List.mem_cons.mp h with rfl | h
    · exact Nat.le_max_left _ _
    · exact Nat.le_trans (depth_mem h) (Nat.le_max_right _ _)
theorem ev__law_same {C i1 i2} {k : Nat} (h1 : S__law_sort (C i1)) (h2 : S__law_same k (C i2)) : S__law_same (k + 1) (callD C (d__law_same i1 i2)) := by
  intro x g cx hk
  have di : ∀ i j : Int, depthOk (.int i) (.int j) = true := fun _ _ => rfl
  have ds : ∀ i j : Str, depthOk (.str i) (.str j) = true := fun _ _ => rfl
  have db : ∀ i j : Bool, depthOk (.bool i) (.bool j) = true := fun _ _ => rfl
  have dn : depthOk .none .none = true := rfl
  cases cx with
  | int i => simp [callD, d__law_same, startE, h1, sortN, di]
  | str s => simp [callD, d__law_same, startE, h1, sortN, di, ds]
  | bool s => simp [callD, d__law_same, startE, h1, sortN, di, db]
  | none => simp [callD, d__law_same, startE, h1, sortN, di, dn, show PyData.eqv .none .none = true from rfl]
  | tup h l =>
    rename_i xs
    have hm : ∀ x ∈ xs, ∀ g, C i2 [.d x, .d x] g = .ok (.d (.bool true)) g := fun x hx g => h2 x g (h.mem x hx) (by
      have := depth_mem hx
      simp [PyData.depth] at hk
      omega)
    simp [callD, d__law_same, startE, h1, sortN, di, show xs.length ≤ 16777216 by omega]
    rw [List.mapIdx_eq_zipIdx_map, lcm_filter (fun _ => false) (fun y => PyData.int ((y.2 : Nat) : Int)) fun y hy => ⟨_, rfl, by
      have q := List.mem_zipIdx_iff_getElem?.mp hy
      have q2 := hm y.1 (List.mem_of_getElem? q)
      simp [q, q2], fun q => by cases q⟩]
    have d1 : depthOk (.list []) (.list []) = true := by decide
    have e0 : (xs.zipIdx.filter fun _ => false) = [] := List.filter_eq_nil_iff.mpr fun _ _ => by simp
    simp [e0, d1]
  | lst h l =>
    rename_i xs
    have hm : ∀ x ∈ xs, ∀ g, C i2 [.d x, .d x] g = .ok (.d (.bool true)) g := fun x hx g => h2 x g (h.mem x hx) (by
      have := depth_mem hx
      simp [PyData.depth] at hk
      omega)
    simp [callD, d__law_same, startE, h1, sortN, di, show xs.length ≤ 16777216 by omega]
    rw [List.mapIdx_eq_zipIdx_map, lcm_filter (fun _ => false) (fun y => PyData.int ((y.2 : Nat) : Int)) fun y hy => ⟨_, rfl, by
      have q := List.mem_zipIdx_iff_getElem?.mp hy
      have q2 := hm y.1 (List.mem_of_getElem? q)
      simp [q, q2], fun q => by cases q⟩]
    have d1 : depthOk (.list []) (.list []) = true := by decide
    have e0 : (xs.zipIdx.filter fun _ => false) = [] := List.filter_eq_nil_iff.mpr fun _ _ => by simp
    simp [e0, d1]
theorem same_list {c : Fc} {k : Nat} (h : S__law_same k c) {xs : List D} {d : Nat} (l : xs.length ≤ 10000) (m : ∀ x ∈ xs, Cm x ∧ x.depth ≤ d) (hd : d + 1 < k) (g : Gs) : c [.d (.list xs), .d (.list xs)] g = .ok (.d (.bool true)) g :=
  h _ g (.lst (.of fun x hx => (m x hx).1) l) (by
    have := depthAll_le (k := d) fun x hx => (m x hx).2
    simp [PyData.depth]; omega)
theorem cm_frD (a b : Int) : Cm (frD a b) ∧ (frD a b).depth ≤ 1 := ⟨.tup (.cons (.int _) (.cons (.int _) .nil)) (by simp), by simp [frD, PyData.depth, PyData.depthAll]⟩
theorem cm_deeds (a b : Option Deed) : Cm (deedsD2 a b) ∧ (deedsD2 a b).depth ≤ 1 := ⟨.tup (.cons (.str _) (.cons (.str _) .nil)) (by simp), by simp [deedsD2, PyData.depth, PyData.depthAll]⟩
theorem cm_stand (s : Stand) : Cm s.d ∧ s.d.depth ≤ 2 := ⟨.tup (.cons (.int _) (.cons (.bool _) (.cons (.bool _) (.cons (.int _) (.cons (.tup (.cons (.int _) (.cons (.int _) .nil)) (by simp)) .nil))))) (by simp), by simp [Stand.d, PyData.depth, PyData.depthAll]⟩
/-! ### runs -/
abbrev S_is_run (c : Fc) : Prop := ∀ (h : House) x g, h.Ok → c [.d h.d, .d x] g = .ok (.d (.bool (isRun h.ws x))) g
theorem ev_is_run {C i1 i2} (h1 : S_need_house (C i1)) (h2 : S_is_run_value (C i2)) : S_is_run (callD C (d_is_run i1 i2)) := by
  intro h x g k
  simp [callD, d_is_run, startE, h1, isHouse_ok k, h2 h x]
abbrev S_warmths_bad (c : Fc) : Prop := ∀ (h : House) (s z : D) g, h.Ok → isStart h.top s = true → isRun h.ws z = false → c [.d h.d, .d s, .d z] g = exc "InvalidRun" g
theorem ev_warmths_bad {C i1 i2} (h1 : S_need_run (C i1)) : S_warmths_bad (callD C (d_warmths i1 i2)) := by
  intro h s z g k hs hz
  have e : ∀ g, C i1 [.d h.d, .d s, .d z] g = exc "InvalidRun" g := fun g => by rw [h1.2 h s z g k, if_pos hs, hz]; rfl
  simp [callD, d_warmths, startE, e, exc]
/-! ### starts -/
abbrev S__law_start (c : Fc) : Prop := ∀ {n : Nat} {m : Int} {h : House} {g : Gs} {o : Out W}, c [.ref n, .d h.d] g = o → Dk g n m → h.Ok → m < 600000000 →
  ∃ (a b : Int) (he wi : Bool) (g' : Gs), o = .ok (.d (startD a b he wi)) g' ∧ Fr.Ok h.top a b ∧ a ≤ 10 ^ 12 ∧ Int.gcd a b = 1 ∧ DkU g n (m + 5) g'
theorem low_le {a b : Int} (a0 : 0 ≤ a) : lowA a b ≤ a := by
  unfold lowA
  exact Int.ediv_le_self _ a0
theorem ev__law_start {C i1 i2 i3} (h1 : S__law_one (C i1)) (h2 : S__law_pick (C i2)) (h3 : S__law_frac (C i3)) : S__law_start (callD C (d__law_start i1 i2 i3)) := by
  intro n m h g o ho dk k hm
  subst ho
  have f0 : ∀ g, idxO g h.d (.int 0) = .ok (.d (.tuple [.int h.top, .int h.heat, .tuple [.int h.l0, .int h.l1, .int h.l2, .int h.l3]])) g := fun _ => rfl
  have p12 : ∀ g, binW .pow g (.int 10) (.int 12) = .ok (.d (.int 1000000000000)) g := fun g => pow_ok g 10 12 (by decide)
  have p6 : ∀ g, binW .pow g (.int 10) (.int 6) = .ok (.d (.int 1000000)) g := fun g => pow_ok g 10 6 (by decide)
  simp [callD, d__law_start, startE, f0, p12, p6, -Bool.exists_bool]
  generalize hr : C i2 _ _ = o
  obtain ⟨r, g1, rfl, r0, r1, u1⟩ := h2 hr dk (by omega) (by omega) (by omega)
  simp [freezeAt_new' u1.len.symm, -Bool.exists_bool]
  clear hr
  generalize hr : C i1 _ _ = o
  obtain ⟨y, g2, rfl, hy, u2⟩ := h1 hr u1.2 (by simp) (by simp) (by omega)
  obtain ⟨b, rfl, b0, b1⟩ : ∃ b : Int, y = .int b ∧ 0 < b ∧ b ≤ 10 ^ 12 := by
    simp at hy
    rcases hy with rfl | rfl | rfl | rfl | rfl | rfl <;> exact ⟨_, rfl, by omega, by omega⟩
  have t0 := k.t2; have t1 := k.t4
  have m2 : mulOk h.top b = true := mulOk_of (small (by omega) (by omega)) (small (by omega) (by omega))
  have q0 : 0 ≤ h.top * b := Int.mul_nonneg (by omega) (by omega)
  have q1 : h.top * b ≤ 4 * b := Int.mul_le_mul_of_nonneg_right t1 (by omega)
  simp [f0, binW_mul m2, -Bool.exists_bool]
  clear hr
  generalize hr : C i2 _ _ = o
  obtain ⟨t, g3, rfl, t0', t1', u3⟩ := h2 hr u2.2 (by omega) (by omega) (by omega)
  simp [p12, -Bool.exists_bool]
  have fr := fun g => h3 t b g t0' b0 (by omega)
  have u := (u1.trans u2).trans u3
  by_cases c : t ≤ 1000000000000
  · simp [c, fr, -Bool.exists_bool]
    clear hr
    generalize hr : C i2 _ _ = o
    obtain ⟨he, g4, rfl, _, _, u4⟩ := h2 hr u3.2 (by omega) (by omega) (by omega)
    simp [-Bool.exists_bool]
    clear hr
    generalize hr : C i2 _ _ = o
    obtain ⟨wi, g5, rfl, _, _, u5⟩ := h2 hr u4.2 (by omega) (by omega) (by omega)
    have u := (u.trans u4).trans u5
    simp [u.take0, startD, -Bool.exists_bool]
    exact ⟨lowA t b, lowB t b, _, _, _, ⟨⟨rfl, rfl, rfl⟩, rfl⟩, low_ok (by omega) ⟨t0', b0, b1, by omega⟩, by have := low_le (b := b) t0'; omega, low_gcd b0, u.mono (by omega)⟩
  · simp [c, -Bool.exists_bool]
    clear hr
    generalize hr : C i2 _ _ = o
    obtain ⟨he, g4, rfl, _, _, u4⟩ := h2 hr u3.2 (by omega) (by omega) (by omega)
    simp [-Bool.exists_bool]
    clear hr
    generalize hr : C i2 _ _ = o
    obtain ⟨wi, g5, rfl, _, _, u5⟩ := h2 hr u4.2 (by omega) (by omega) (by omega)
    have u := (u.trans u4).trans u5
    simp [u.take0, startD, -Bool.exists_bool]
    exact ⟨1, 1, _, _, _, ⟨⟨rfl, rfl, rfl⟩, rfl⟩, ⟨by omega, by omega, by omega, by omega⟩, by omega, by decide, u.mono (by omega)⟩
end RF
end
section
set_option Elab.async false
set_option linter.all false
set_option maxRecDepth 100000
/-! What the ends of the laws share. -/
namespace RF
open PySem
theorem cutD_take (xs : List D) (n : Nat) : cutD xs none (some (n : Int)) = xs.take n := by
  unfold cutD
  rw [show HT.sIx xs.length 0 none = 0 from rfl, show HT.sIx xs.length xs.length (some (n : Int)) = min n xs.length from by
    show (if (n : Int) < 0 then ((n : Int) + xs.length).toNat else min (n : Int).toNat xs.length) = _
    rw [if_neg (by omega)]; simp]
  simp
theorem mem_cells {x : D} {ns : List Int} {k : Nat} (h : x ∈ (PyData.int 0 :: ns.map .int).take k) : ∃ z : Int, x = .int z := by
  have := List.mem_of_mem_take h
  rcases List.mem_cons.mp this with h | h
  · exact ⟨0, h⟩
  · obtain ⟨z, _, rfl⟩ := List.mem_map.mp h
    exact ⟨z, rfl⟩
/-- a call that ends in an error without a value, tried -/
theorem try_exc {C : Nat → List W → Gs → Out W} {f : Nat} {es : Exs} {env : Env} {g : Gs} {ws : List W} {c t : Str}
    (h : evEs (fun i => C (i + 1000)) es env g = .ok ws g) (k : C (f + 1000) ws g = exc c g) (e : kinT (kf c) = t) : evE C (.tryc f es) env g = .ok (.d (.str t)) g := by
  rw [evE_tryc, h]
  show tryW g.length (C (f + 1000) ws g) = _
  rw [k]
  show Out.ok (W.d (.str (kinT (kf c)))) (g.take g.length) = _
  rw [e, List.take_length]
theorem try_told {C : Nat → List W → Gs → Out W} {f : Nat} {es : Exs} {env : Env} {g : Gs} {ws : List W} {x : D}
    (h : evEs (fun i => C (i + 1000)) es env g = .ok ws g) (k : C (f + 1000) ws g = .ok (.d x) g) : evE C (.tryc f es) env g = .ok (.d (.tuple [.str "told", x])) g := by
  rw [evE_tryc, h]
  show tryW g.length (C (f + 1000) ws g) = _
  rw [k]
  rfl
theorem kin_book : kinT (kf "InvalidBook") = "book +" := by decide +kernel
theorem kin_feelings : kinT (kf "InvalidFeelings") = "feelings +" := by decide +kernel
theorem kin_house : kinT (kf "InvalidHouse") = "house +" := by decide +kernel
theorem kin_start : kinT (kf "InvalidStart") = "start +" := by decide +kernel
theorem kin_stand : kinT (kf "InvalidStand") = "stand +" := by decide +kernel
theorem kin_run : kinT (kf "InvalidRun") = "run +" := by decide +kernel
theorem kin_person : kinT (kf "InvalidPerson") = "person +" := by decide +kernel
theorem kin_deed : kinT (kf "InvalidDeed") = "deed +" := by decide +kernel
theorem kin_word : kinT (kf "InvalidWord") = "word +" := by decide +kernel
theorem kin_unlike : kinT (kf "Unlike") = "unlike +" := by decide +kernel
@[simp] theorem cmpD_isnot (a b : Bool) : cmpD .isnot (.bool a) (.bool b) = some (!(a == b)) := by cases a <;> cases b <;> rfl
theorem give_new (g : Gs) (xs : List D) : give (g ++ [some (.lst xs)]) (.ref g.length) = .ok (.list xs) (g ++ [none]) := by
  simp [give]
theorem freeze_2 (g : Gs) (o : Option Ob) (xs : List D) : freezeAt g.length (g ++ [o, some (.lst xs)]) (.ref (g.length + 1)) = .ok (.d (.list xs)) g := by
  simp [freezeAt]
end RF
end
section
set_option Elab.async false
set_option linter.all false
set_option maxRecDepth 100000
/-! Choices and what follows. -/
namespace RF
open PySem
def isPair (h : House) (x : D) : Bool := match x with
  | .tuple [p, q] => isWithin p 0 (h.q0.book.length - 1) && isWithin q 0 (h.q1.book.length - 1)
  | _ => false
def isStand (h : House) (x : D) : Bool := match x with
  | .tuple [a, b, c, d, e] => isWithin a 0 (2 * h.top) && (isBool b && (isBool c && (isWithin d 0 (h.period - 1) && isPair h e)))
  | _ => false
abbrev S_is_stand_value (c : Fc) : Prop := ∀ (h : House) x g, h.Ok → c [.d h.d, .d x] g = .ok (.d (.bool (isStand h x))) g
theorem ev_is_stand_value {C i1 i2} (h1 : S_is_within (C i1)) (h2 : S_period_of (C i2)) : S_is_stand_value (callD C (d_is_stand_value i1 i2)) := by
  intro h x g k
  have f0 : ∀ g, idxO g h.d (.int 0) = .ok (.d (.tuple [.int h.top, .int h.heat, .tuple [.int h.l0, .int h.l1, .int h.l2, .int h.l3]])) g := fun _ => rfl
  have f2 : ∀ g, idxO g h.d (.int 2) = .ok (.d (.tuple [h.q0.d, h.q1.d])) g := fun _ => rfl
  have m2 : mulOk 2 h.top = true := mulOk_of (small (by omega) (by omega)) (small (by have := k.t2; omega) (by have := k.t4; omega))
  cases x <;> simp [callD, d_is_stand_value, startE, isStand, isTy]
  rename_i xs
  match xs with
  | [] => simp
  | [a] => simp
  | [a, b] => simp
  | [a, b, c] => simp
  | [a, b, c, d] => simp
  | [a, b, c, d, e] =>
    simp [f0, binW_mul m2, h1 _ _ _]
    cases isWithin a 0 (2 * h.top) <;> simp [isTy_bool]
    cases isBool b <;> simp
    cases isBool c <;> simp
    simp [h2 h, h1 _ _ _]
    cases isWithin d 0 (h.period - 1) <;> simp
    cases e <;> simp [isTy, isPair]
    rename_i ys
    match ys with
    | [] => simp
    | [p] => simp
    | [p, q] =>
      simp [f2]
      rw [show ([.tuple [p, h.q0.d], .tuple [q, h.q1.d]] : List D) = [(p, h.q0), (q, h.q1)].map (fun y => .tuple [y.1, y.2.d]) from rfl, lcm_map (fun y => .bool (isWithin y.1 0 (y.2.book.length - 1))) fun y _ => ⟨_, rfl, by simp [Pers.d, bookD, h1 _ _ _]⟩]
      simp
    | p :: q :: s :: r =>
      have : ¬ ((r.length : Int) + 1 + 1 + 1 = 2) := by omega
      simp [this]
  | a :: b :: c :: d :: e :: f :: r =>
    have : ¬ ((r.length : Int) + 1 + 1 + 1 + 1 + 1 + 1 = 5) := by omega
    simp [this]
structure Stand.Full (h : House) (s : Stand) : Prop where
  l0 : 0 ≤ s.level
  l1 : s.level ≤ 2 * h.top
  f0 : 0 ≤ s.phase
  f1 : s.phase < h.period
  p : s.Ok h
theorem isStand_ok {h : House} {s : Stand} (k : s.Full h) : isStand h s.d = true := by
  have l0 := k.l0; have l1 := k.l1; have f0 := k.f0; have f1 := k.f1; have p0 := k.p.p0; have p1 := k.p.p1
  simp [isStand, isPair, Stand.d, isBool, isWithin]
  omega
abbrev S_need_person (c : Fc) : Prop := ∀ (who : Bool) g, c [.d (.int (wI who))] g = .ok (.d .none) g
theorem ev_need_person {C i1} (h1 : S_is_within (C i1)) : S_need_person (callD C (d_need_person i1)) := by
  intro who g
  cases who <;> simp [callD, d_need_person, startE, h1 _ _ _, wI, isWithin]
abbrev S_need_stand (c : Fc) : Prop := ∀ (h : House) x g, h.Ok → c [.d h.d, .d x] g = if isStand h x = true then .ok (.d .none) g else exc "InvalidStand" g
theorem ev_need_stand {C i1 i2} (h1 : S_need_house (C i1)) (h2 : S_is_stand_value (C i2)) : S_need_stand (callD C (d_need_stand i1 i2)) := by
  intro h x g k
  simp [callD, d_need_stand, startE, h1, isHouse_ok k, h2 h x _ k, exc]
  cases isStand h x <;> simp
/-- what somebody finds, at the look -/
def seen (h : House) (s : Stand) (who : Bool) : Stand := if who then (looked h s false).1 else s
def choicesM (h : House) (s : Stand) (who : Bool) : List (Option Deed) :=
  if s.phase % (h.per who).beat = 0 then none :: (allDeeds.filter fun d => !decide (chg (seen h s who).heater (seen h s who).window (some d) = ((seen h s who).heater, (seen h s who).window))).map some else [none]
def oD (o : Option Deed) : D := .str (oS o)
abbrev S_choices_of (c : Fc) : Prop := ∀ (h : House) (s : Stand) (who : Bool) g, h.Ok → s.Ok h → c [.d h.d, .d (.int (wI who)), .d s.d] g = .ok (.d (.list ((choicesM h s who).map oD))) g
theorem dev_sl (s : Stand) (g : Gs) : sliceW g s.d (some 1) (some 3) = .ok (.d (devD (s.heater, s.window))) g := rfl
theorem choices_lc {C : Nat → List W → Gs → Out W} {i3 : Nat} (h3 : ∀ (x : Bool × Bool) (o : Option Deed) g, C i3 [.d (devD x), .d (.str (oS o))] g = .ok (.d (devD (chg x.1 x.2 o))) g) (w0 w1 w2 : Option W) (x : Bool × Bool) (g : Gs) :
    lcRun C [w0, w1, w2, some (W.d (devD x)), none] [4] (Tg.nm 4) (Exo.some (Ex.cmp CO.ne (Ex.call i3 (Exs.cons (Ex.var 3) (Exs.cons (Ex.var 4) Exs.nil))) (Ex.var 3))) (Ex.var 4) [.str "off", .str "on", .str "open", .str "shut"] g = .ok ((allDeeds.filter fun d => !decide (chg x.1 x.2 (some d) = x)).map Deed.d) g := by
  rw [allDeeds_d, lcm_filter (fun d => !decide (chg x.1 x.2 (some d) = x)) (fun d => d.d) fun d _ => ⟨_, rfl, by
    simp [Deed.d, h3 x (some d), show d.str = oS (some d) from rfl, depthOk_r (y := devD x) (by rw [devD_depth]; decide), devD_eqv], fun _ => by simp⟩]
theorem ev_choices_of {C i1 i2 i3} (h1 : S_looks (C i1)) (h2 : S_looked (C i2)) (h3 : S_changed (C i3)) : S_choices_of (callD C (d_choices_of i1 i2 i3)) := by
  intro h s who g k o
  have l : ∀ g, C i2 [.d h.d, .d s.d, .d (.int 0)] g = .ok (.d (.tuple [(looked h s false).1.d, .str (oS (looked h s false).2)])) g := fun g => h2 h s false g k o
  simp [callD, d_choices_of, startE, h1 h s who g k]
  by_cases c : s.phase % (h.per who).beat = 0
  · cases who
    · have n : ∀ p : Deed → Bool, 1 + (allDeeds.filter p).length ≤ 16777216 := fun p => by
        have := List.length_filter_le p allDeeds
        simp [allDeeds] at this ⊢; omega
      simp [c, wI, dev_sl, choices_lc h3, PyData.depth, depthOk, n, choicesM, seen]
      rw [if_neg (by omega)]; rfl
    · have n : ∀ p : Deed → Bool, 1 + (allDeeds.filter p).length ≤ 16777216 := fun p => by
        have := List.length_filter_le p allDeeds
        simp [allDeeds] at this ⊢; omega
      simp [c, wI, l, dev_sl, choices_lc h3, PyData.depth, depthOk, n, choicesM, seen]
      rw [if_neg (by omega)]; rfl
  · simp [c, choicesM, oD, oS]
/-- the stand ahead of the change of warmth, where somebody does so -/
def middleM (h : House) (s : Stand) (who : Bool) (o : Option Deed) : Stand :=
  let x := seen h s who
  let y : Stand := { x with heater := (chg x.heater x.window o).1, window := (chg x.heater x.window o).2 }
  if who then y else (looked h y true).1
theorem seen_ok {h : House} {s : Stand} (k : h.Ok) (o : s.Ok h) (who : Bool) : (seen h s who).Ok h := by
  cases who
  · exact o
  · exact looked_ok k o false
theorem cut3 (a b c d e : D) : cutD [a, b, c, d, e] (some 3) none = [d, e] := rfl
theorem dev_sl3 (s : Stand) (g : Gs) : sliceW g s.d (some 3) none = .ok (.d (.tuple [.int s.phase, .tuple [.int s.p0, .int s.p1]])) g := rfl
abbrev S_middle_of (c : Fc) : Prop := ∀ (h : House) (s : Stand) (who : Bool) (o : Option Deed) g, h.Ok → s.Ok h → c [.d h.d, .d (.int (wI who)), .d s.d, .d (.str (oS o))] g = .ok (.d (middleM h s who o).d) g
theorem ev_middle_of {C i1 i2} (h1 : S_looked (C i1)) (h2 : S_changed (C i2)) : S_middle_of (callD C (d_middle_of i1 i2)) := by
  intro h s who o g k q
  have l : ∀ g, C i1 [.d h.d, .d s.d, .d (.int 0)] g = .ok (.d (.tuple [(looked h s false).1.d, .str (oS (looked h s false).2)])) g := fun g => h1 h s false g k q
  have e0 : ∀ (s : Stand) g, idxO g s.d (.int 0) = .ok (.d (.int s.level)) g := fun _ _ => rfl
  have ch := fun (s : Stand) g => h2 (s.heater, s.window) o g
  cases who
  · have l2 : ∀ g, C i1 [.d h.d, .d (PyData.tuple [.int s.level, .bool (chg s.heater s.window o).1, .bool (chg s.heater s.window o).2, .int s.phase, .tuple [.int s.p0, .int s.p1]]), .d (.int 1)] g = .ok (.d (.tuple [(middleM h s false o).d, .str (oS (looked h { s with heater := (chg s.heater s.window o).1, window := (chg s.heater s.window o).2 } true).2)])) g := fun g => h1 h { s with heater := (chg s.heater s.window o).1, window := (chg s.heater s.window o).2 } true g k ⟨q.p0, q.p1⟩
    simp [callD, d_middle_of, startE, wI, e0, dev_sl, dev_sl3, ch, PyData.depth, depthOk]
    simp [devD, dev_sl3, l2]
  · simp [callD, d_middle_of, startE, wI, l, e0, dev_sl, dev_sl3, ch, PyData.depth, depthOk]
    simp [devD, dev_sl3]
    simp [middleM, seen, Stand.d]
def outsD (h : House) (s : Stand) (who : Bool) (o : Option Deed) : D := .list (h.ws.map fun w => .tuple [w.d, (passed h (middleM h s who o) w).d])
abbrev S_outcomes_of (c : Fc) : Prop := ∀ (h : House) (s : Stand) (who : Bool) (o : Option Deed) g, h.Ok → s.Ok h → c [.d h.d, .d (.int (wI who)), .d s.d, .d (.str (oS o))] g = .ok (.d (outsD h s who o)) g
theorem ws_len {h : House} (k : h.Ok) : h.ws.length ≤ 2 := by rcases k.ws with e | e | e <;> rw [e] <;> decide
theorem ev_outcomes_of {C i1 i2} (h1 : S_middle_of (C i1)) (h2 : S_passed (C i2)) : S_outcomes_of (callD C (d_outcomes_of i1 i2)) := by
  intro h s who o g k q
  have f1 : ∀ g, idxO g h.d (.int 1) = .ok (.d (.tuple (h.ws.map Wth.d))) g := fun _ => rfl
  have := ws_len k
  simp [callD, d_outcomes_of, startE, h1 h s who o _ k q, f1, show h.ws.length ≤ 16777216 by omega]
  rw [lcm_map (fun w => .tuple [w.d, (passed h (middleM h s who o) w).d]) fun w _ => ⟨_, rfl, by simp [h2 h _ w _ k]⟩]
  simp [outsD]
abbrev S_choices (c : Fc) : Prop := ∀ (h : House) (s : Stand) (who : Bool) g, h.Ok → s.Full h → c [.d h.d, .d (.int (wI who)), .d s.d] g = .ok (.d (.list ((choicesM h s who).map oD))) g
theorem ev_choices {C i1 i2 i3 i4} (h1 : S_need_house (C i1)) (h2 : S_need_person (C i2)) (h3 : S_need_stand (C i3)) (h4 : S_choices_of (C i4)) : S_choices (callD C (d_choices i1 i2 i3 i4)) := by
  intro h s who g k q
  simp [callD, d_choices, startE, h1, isHouse_ok k, h2 who, h3 h s.d _ k, isStand_ok q, h4 h s who _ k q.p]
abbrev S_choices_bad (c : Fc) : Prop := ∀ (h : House) (x : D) (who : Bool) g, h.Ok → isStand h x = false → c [.d h.d, .d (.int (wI who)), .d x] g = exc "InvalidStand" g
theorem ev_choices_bad {C i1 i2 i3 i4} (h1 : S_need_house (C i1)) (h2 : S_need_person (C i2)) (h3 : S_need_stand (C i3)) : S_choices_bad (callD C (d_choices i1 i2 i3 i4)) := by
  intro h x who g k q
  simp [callD, d_choices, startE, h1, isHouse_ok k, h2 who, h3 h x _ k, q, exc]
abbrev S_outcomes (c : Fc) : Prop := ∀ (h : House) (s : Stand) (who : Bool) (o : Option Deed) g, h.Ok → s.Full h → o ∈ choicesM h s who → c [.d h.d, .d (.int (wI who)), .d s.d, .d (.str (oS o))] g = .ok (.d (outsD h s who o)) g
theorem oS_inj {x y : Option Deed} : oS x = oS y ↔ x = y := by
  cases x with
  | none => cases y with
    | none => simp
    | some y => cases y <;> simp [oS, Deed.str]
  | some x => cases y with
    | none => cases x <;> simp [oS, Deed.str]
    | some y => cases x <;> cases y <;> simp [oS, Deed.str]
theorem any_oD {o : Option Deed} (os : List (Option Deed)) : ((os.map oD).any fun y => PyData.eqv y (.str (oS o))) = decide (o ∈ os) := by
  rw [Bool.eq_iff_iff]
  simp [oD, oS_inj]
theorem ev_outcomes {C i1 i2 i3 i4 i5} (h1 : S_need_house (C i1)) (h2 : S_need_person (C i2)) (h3 : S_need_stand (C i3)) (h4 : S_choices_of (C i4)) (h5 : S_outcomes_of (C i5)) : S_outcomes (callD C (d_outcomes i1 i2 i3 i4 i5)) := by
  intro h s who o g k q m
  have a := any_oD (o := o) (choicesM h s who)
  rw [decide_eq_true m] at a
  simp [callD, d_outcomes, startE, h1, isHouse_ok k, h2 who, h3 h s.d _ k, isStand_ok q, h4 h s who _ k q.p, isTy, PyData.depth, -List.any_map, a, h5 h s who o _ k q.p]
abbrev S_outcomes_no (c : Fc) : Prop := ∀ (h : House) (s : Stand) (who : Bool) (x : D) g, h.Ok → s.Full h → x.depth ≤ 64 → (((choicesM h s who).map oD).any fun y => PyData.eqv y x) = false → c [.d h.d, .d (.int (wI who)), .d s.d, .d x] g = exc "InvalidDeed" g
theorem ev_outcomes_no {C i1 i2 i3 i4 i5} (h1 : S_need_house (C i1)) (h2 : S_need_person (C i2)) (h3 : S_need_stand (C i3)) (h4 : S_choices_of (C i4)) : S_outcomes_no (callD C (d_outcomes i1 i2 i3 i4 i5)) := by
  intro h s who x g k q hd m
  simp [callD, d_outcomes, startE, h1, isHouse_ok k, h2 who, h3 h s.d _ k, isStand_ok q, h4 h s who _ k q.p]
  rw [List.any_map] at m
  cases x <;> simp [isTy, hd, m, exc]
abbrev S_outcomes_bad (c : Fc) : Prop := ∀ (h : House) (x y : D) (who : Bool) g, h.Ok → isStand h x = false → c [.d h.d, .d (.int (wI who)), .d x, .d y] g = exc "InvalidStand" g
theorem ev_outcomes_bad {C i1 i2 i3 i4 i5} (h1 : S_need_house (C i1)) (h2 : S_need_person (C i2)) (h3 : S_need_stand (C i3)) : S_outcomes_bad (callD C (d_outcomes i1 i2 i3 i4 i5)) := by
  intro h x y who g k q
  simp [callD, d_outcomes, startE, h1, isHouse_ok k, h2 who, h3 h x _ k, q, exc]
/-! the law's own -/
abbrev S__law_chosen (c : Fc) : Prop := S_choices_of c
theorem ev__law_chosen {C i1 i2 i3} (h1 : S__law_looks (C i1)) (h2 : S__law_look (C i2)) (h3 : S__law_set (C i3)) : S__law_chosen (callD C (d__law_chosen i1 i2 i3)) := by
  intro h s who g k o
  have l : ∀ g, C i2 [.d h.d, .d s.d, .d (.int 0)] g = .ok (.d (.tuple [(looked h s false).1.d, .str (oS (looked h s false).2)])) g := fun g => h2 h s false g k o
  have n : ∀ p : Deed → Bool, 1 + (allDeeds.filter p).length ≤ 16777216 := fun p => by
    have := List.length_filter_le p allDeeds
    simp [allDeeds] at this ⊢; omega
  simp [callD, d__law_chosen, startE, h1 h s who g k]
  by_cases c : s.phase % (h.per who).beat = 0
  · cases who
    · simp [c, wI, dev_sl, choices_lc h3, PyData.depth, depthOk, n, choicesM, seen]
      rw [if_neg (by omega)]; rfl
    · simp [c, wI, l, dev_sl, choices_lc h3, PyData.depth, depthOk, n, choicesM, seen]
      rw [if_neg (by omega)]; rfl
  · simp [c, choicesM, oD, oS]
abbrev S__law_middle (c : Fc) : Prop := S_middle_of c
theorem ev__law_middle {C i1 i2} (h1 : S__law_look (C i1)) (h2 : S__law_set (C i2)) : S__law_middle (callD C (d__law_middle i1 i2)) := by
  intro h s who o g k q
  have l : ∀ g, C i1 [.d h.d, .d s.d, .d (.int 0)] g = .ok (.d (.tuple [(looked h s false).1.d, .str (oS (looked h s false).2)])) g := fun g => h1 h s false g k q
  have e0 : ∀ (s : Stand) g, idxO g s.d (.int 0) = .ok (.d (.int s.level)) g := fun _ _ => rfl
  have ch := fun (s : Stand) g => h2 (s.heater, s.window) o g
  cases who
  · have l2 : ∀ g, C i1 [.d h.d, .d (PyData.tuple [.int s.level, .bool (chg s.heater s.window o).1, .bool (chg s.heater s.window o).2, .int s.phase, .tuple [.int s.p0, .int s.p1]]), .d (.int 1)] g = .ok (.d (.tuple [(middleM h s false o).d, .str (oS (looked h { s with heater := (chg s.heater s.window o).1, window := (chg s.heater s.window o).2 } true).2)])) g := fun g => h1 h { s with heater := (chg s.heater s.window o).1, window := (chg s.heater s.window o).2 } true g k ⟨q.p0, q.p1⟩
    simp [callD, d__law_middle, startE, wI, e0, dev_sl, dev_sl3, ch, PyData.depth, depthOk]
    simp [devD, dev_sl3, l2]
  · simp [callD, d__law_middle, startE, wI, l, e0, dev_sl, dev_sl3, ch, PyData.depth, depthOk]
    simp [devD, dev_sl3]
    simp [middleM, seen, Stand.d]
abbrev S__law_outs (c : Fc) : Prop := S_outcomes_of c
theorem ev__law_outs {C i1 i2} (h1 : S__law_middle (C i1)) (h2 : S__law_warmed (C i2)) : S__law_outs (callD C (d__law_outs i1 i2)) := by
  intro h s who o g k q
  have f1 : ∀ g, idxO g h.d (.int 1) = .ok (.d (.tuple (h.ws.map Wth.d))) g := fun _ => rfl
  have := ws_len k
  simp [callD, d__law_outs, startE, h1 h s who o _ k q, f1, show h.ws.length ≤ 16777216 by omega]
  rw [lcm_map (fun w => .tuple [w.d, (passed h (middleM h s who o) w).d]) fun w _ => ⟨_, rfl, by simp [h2 h _ w _ k]⟩]
  simp [outsD]
end RF
end
section
set_option Elab.async false
set_option linter.all false
set_option maxRecDepth 100000
/-! Any stand of a house. -/
namespace RF
open PySem
abbrev S__law_any_stand (c : Fc) : Prop := ∀ {n : Nat} {m : Int} {h : House} {g : Gs} {o : Out W}, c [.ref n, .d h.d] g = o → Dk g n m → h.Ok → m < 600000000 →
  ∃ (s : Stand) (g' : Gs), o = .ok (.d s.d) g' ∧ s.Full h ∧ DkU g n (m + 6) g'
theorem ev__law_any_stand {C i1 i2} (h1 : S__law_pick (C i1)) (h2 : S__law_period (C i2)) : S__law_any_stand (callD C (d__law_any_stand i1 i2)) := by
  intro n m h g o ho dk k hm
  subst ho
  have f0 : ∀ g, idxO g h.d (.int 0) = .ok (.d (.tuple [.int h.top, .int h.heat, .tuple [.int h.l0, .int h.l1, .int h.l2, .int h.l3]])) g := fun _ => rfl
  have f2 : ∀ g, idxO g h.d (.int 2) = .ok (.d (.tuple [h.q0.d, h.q1.d])) g := fun _ => rfl
  have m2 : mulOk 2 h.top = true := mulOk_of (small (by omega) (by omega)) (small (by have := k.t2; omega) (by have := k.t4; omega))
  simp [callD, d__law_any_stand, startE, f2, -Bool.exists_bool]
  generalize hr : lcRun C _ _ _ _ _ _ _ = o
  obtain ⟨ys, g2, rfl, _, _, e, u2⟩ := lcW hr (fun pre ys g' => (pre = [] → ys = []) ∧ (pre = [h.q0.d] → ∃ a : Nat, ys = [.int a] ∧ a < h.q0.book.length) ∧ (pre = [h.q0.d, h.q1.d] → ∃ a b : Nat, ys = [.int a, .int b] ∧ a < h.q0.book.length ∧ b < h.q1.book.length) ∧ DkU g n (m + pre.length) g') ⟨fun _ => rfl, fun h => by simp at h, fun h => by simp at h, by simpa using dk.u⟩ (by
    rintro pre x post ys g3 hx ⟨e0, e1, _, u⟩
    have two : (pre = [] ∧ x = h.q0.d) ∨ (pre = [h.q0.d] ∧ x = h.q1.d) := by
      match pre, hx with
      | [], hx => simp at hx; exact .inl ⟨rfl, hx.1.symm⟩
      | [a], hx => simp at hx; exact .inr ⟨by rw [hx.1], hx.2.1.symm⟩
      | a :: b :: r, hx => simp at hx
    have k0 := k.q0.bk; have k1 := k.q1.bk
    rcases two with ⟨rfl, rfl⟩ | ⟨rfl, rfl⟩
    · have l0 := k0.lo; have l1 := k0.hi
      have e := e0 rfl
      subst e
      clear hr
      simp [Pers.d, bookD]
      generalize hr : C i1 _ _ = o
      obtain ⟨r, g4, rfl, r0, r1, u2⟩ := h1 hr u.2 (by omega) (by omega) (by simp; omega)
      obtain ⟨r, rfl⟩ := Int.eq_ofNat_of_zero_le r0
      simp
      exact ⟨⟨r, rfl, by omega⟩, (u.trans u2).mono (by simp)⟩
    · have l0 := k1.lo; have l1 := k1.hi
      obtain ⟨a, e, ha⟩ := e1 rfl
      subst e
      clear hr
      simp [Pers.d, bookD]
      generalize hr : C i1 _ _ = o
      obtain ⟨r, g4, rfl, r0, r1, u2⟩ := h1 hr u.2 (by omega) (by omega) (by simp; omega)
      obtain ⟨r, rfl⟩ := Int.eq_ofNat_of_zero_le r0
      simp
      exact ⟨⟨a, r, ⟨rfl, rfl⟩, ha, by omega⟩, (u.trans u2).mono (by simp; omega)⟩)
  obtain ⟨p0, p1, rfl, hp0, hp1⟩ := e rfl
  have t0 := k.t2; have t1 := k.t4
  have pp := period_pos k
  have pq : h.period ≤ 2 := by unfold House.period; have := k.q0.b2; have := k.q1.b2; omega
  simp at u2
  have tk : ∀ j, (g2 ++ j).take g.length = g2 := fun j => u2.take j
  simp [tk, f0, binW_mul m2, h2 h _ k, -Bool.exists_bool]
  clear hr
  generalize hr : C i1 _ _ = o
  obtain ⟨lv, g3, rfl, v0, v1, v3⟩ := h1 hr (u2.2.app _) (by omega) (by omega) (by omega)
  obtain ⟨g3, rfl, u3⟩ := v3.split u2.2.lt
  simp [h2 h _ k, -Bool.exists_bool]
  clear hr v3
  generalize hr : C i1 _ _ = o
  obtain ⟨ph, g4, rfl, w0, w1, v4⟩ := h1 hr (u3.2.app _) (by omega) (by omega) (by omega)
  obtain ⟨g4, rfl, u4⟩ := v4.split u3.2.lt
  simp [-Bool.exists_bool]
  clear hr v4
  generalize hr : C i1 _ _ = o
  obtain ⟨he, g5, rfl, _, _, v5⟩ := h1 hr (u4.2.app _) (by omega) (by omega) (by omega)
  obtain ⟨g5, rfl, u5⟩ := v5.split u4.2.lt
  simp [-Bool.exists_bool]
  clear hr v5
  generalize hr : C i1 _ _ = o
  obtain ⟨wi, g6, rfl, _, _, v6⟩ := h1 hr (u5.2.app _) (by omega) (by omega) (by omega)
  obtain ⟨g6, rfl, u6⟩ := v6.split u5.2.lt
  have u := (((u2.trans u3).trans u4).trans u5).trans u6
  simp [u.take, -Bool.exists_bool]
  exact ⟨⟨lv, decide (he = 0), decide (wi = 0), ph, p0, p1⟩, g6, ⟨rfl, rfl⟩, ⟨v0, by show lv ≤ 2 * h.top; omega, w0, w1, ⟨hp0, hp1⟩⟩, u.mono (by omega)⟩
end RF
end
section
set_option Elab.async false
set_option linter.all false
set_option maxRecDepth 100000
/-! The law k08. -/
namespace RF
open PySem
def someD : List D := [.str "", .str "off", .str "on", .str "open", .str "shut", .str "On", .none, .int 0, .tuple [.str "on"]]
theorem someD_is : ∀ x ∈ someD, x.depth ≤ 64 ∧ ((∃ o : Option Deed, x = oD o) ∨ ∀ o : Option Deed, PyData.eqv (oD o) x = false) := by
  intro x hx
  have no : ∀ {s : Str}, s ≠ "" → s ≠ "off" → s ≠ "on" → s ≠ "open" → s ≠ "shut" → ∀ o : Option Deed, PyData.eqv (oD o) (.str s) = false := by
    intro s h0 h1 h2 h3 h4 o
    simp only [oD]
    cases o with
    | none => simp [oS, Ne.symm h0]
    | some o => cases o <;> simp [oS, Deed.str, Ne.symm h1, Ne.symm h2, Ne.symm h3, Ne.symm h4]
  simp only [someD, List.mem_cons, List.not_mem_nil, or_false] at hx
  rcases hx with rfl | rfl | rfl | rfl | rfl | rfl | rfl | rfl | rfl
  · exact ⟨by decide, .inl ⟨none, rfl⟩⟩
  · exact ⟨by decide, .inl ⟨some .off, rfl⟩⟩
  · exact ⟨by decide, .inl ⟨some .on, rfl⟩⟩
  · exact ⟨by decide, .inl ⟨some .opn, rfl⟩⟩
  · exact ⟨by decide, .inl ⟨some .shut, rfl⟩⟩
  · exact ⟨by decide, .inr (no (by decide) (by decide) (by decide) (by decide) (by decide))⟩
  · exact ⟨by decide, .inr fun o => rfl⟩
  · exact ⟨by decide, .inr fun o => rfl⟩
  · exact ⟨by decide, .inr fun o => rfl⟩
def badD (h : House) (s : Stand) : List D :=
  [.none, .tuple [.int s.level, .bool s.heater, .bool s.window, .int s.phase], .list [.int s.level, .bool s.heater, .bool s.window, .int s.phase, .tuple [.int s.p0, .int s.p1]],
   .tuple [.int (2 * h.top + 1), .bool s.heater, .bool s.window, .int s.phase, .tuple [.int s.p0, .int s.p1]],
   .tuple [.int (-1), .bool s.heater, .bool s.window, .int s.phase, .tuple [.int s.p0, .int s.p1]],
   .tuple [.int s.level, .bool s.heater, .bool s.window, .int 2, .tuple [.int s.p0, .int s.p1]],
   .tuple [.int s.level, .bool s.heater, .bool s.window, .int s.phase, .tuple [.int 3, .int 0]],
   .tuple [.int s.level, .int 1, .bool s.window, .int s.phase, .tuple [.int s.p0, .int s.p1]],
   .tuple [.int s.level, .bool s.heater, .bool s.window, .int s.phase, .tuple [.int 0]],
   .tuple [.bool true, .bool s.heater, .bool s.window, .int s.phase, .tuple [.int s.p0, .int s.p1]]]
theorem badD_is {h : House} {s : Stand} (k : h.Ok) : ∀ x ∈ badD h s, isStand h x = false := by
  intro x hx
  have pq : h.period ≤ 2 := by unfold House.period; have := k.q0.b2; have := k.q1.b2; omega
  have l0 := k.q0.bk.hi
  simp only [badD, List.mem_cons, List.not_mem_nil, or_false] at hx
  rcases hx with rfl | rfl | rfl | rfl | rfl | rfl | rfl | rfl | rfl | rfl
  · rfl
  · rfl
  · rfl
  all_goals simp [isStand, isPair, isBool, isWithin]
  all_goals (intros; omega)
theorem cm_outs {h : House} (k : h.Ok) (s : Stand) (who : Bool) (o : Option Deed) : Cm (outsD h s who o) ∧ (outsD h s who o).depth ≤ 4 := by
  have m : ∀ x ∈ h.ws.map (fun w => PyData.tuple [w.d, (passed h (middleM h s who o) w).d]), Cm x ∧ x.depth ≤ 3 := fun x hx => by
    obtain ⟨w, _, rfl⟩ := List.mem_map.mp hx
    have c := cm_stand (passed h (middleM h s who o) w)
    refine ⟨.tup (.cons (.str _) (.cons c.1 .nil)) (by simp), ?_⟩
    have := c.2
    simp [Wth.d, PyData.depth, PyData.depthAll]; omega
  have := depthAll_le fun x hx => (m x hx).2
  refine ⟨.lst (.of fun x hx => (m x hx).1) (by rw [List.length_map]; have := ws_len k; omega), ?_⟩
  simp only [outsD, PyData.depth]; omega
def Had8 (h : House) (o9 o10 : Option W) : Prop := ∃ (s : Stand) (who : Bool), s.Full h ∧ o9 = some (.d s.d) ∧ o10 = some (.d (.int (wI who)))
theorem ev_law_k08 {C i1 i2 i3 i4 i5 i6 i7 i8} (h1 : S__law_deck (C i1)) (h2 : S__law_house (C i2)) (h3 : S__law_any_stand (C i3)) (h4 : S__law_pick (C i4)) (h5 : S__law_chosen (C i5)) (h6 : S__law_same 10 (C i6)) (h7 : S_choices (C i7)) (h8 : S__law_outs (C i8)) (t1 : S_choices_bad (C 1023)) (t2 : S_outcomes (C 1024)) (t3 : S_outcomes_no (C 1024)) (t4 : S_outcomes_bad (C 1024)) (ns : List Int) (hns : ns.length ≤ 1000) :
    ∃ g', callD C (d_law_k08 i1 i2 i3 i4 i5 i6 i7 i8) [.scr ns] [] = .ok (.d (.bool true)) g' := by
  simp [callD, d_law_k08, startE]
  simp [kAdds, show 1 + ns.length ≤ 16777216 by omega, show cutD (PyData.int 0 :: ns.map .int) none (some 10) = (PyData.int 0 :: ns.map .int).take 10 from cutD_take _ 10, -List.take_succ_cons]
  generalize hr : forRun C _ _ _ _ _ = r
  obtain ⟨env', g', rfl, o1, o2, o3, o4, o5, o6, o7, o8, o9, o10, o11, rfl⟩ := invD hr (fun pre env g' => ∃ o1 o2 o3 o4 o5 o6 o7 o8 o9 o10 o11 : Option W, env = [some (W.scr ns), o1, o2, o3, o4, o5, o6, o7, o8, o9, o10, o11]) ⟨_, _, _, _, _, _, _, _, _, _, _, rfl⟩ (by
    rintro pre x post hx env g ⟨o1, o2, o3, o4, o5, o6, o7, o8, o9, o10, o11, rfl⟩
    obtain ⟨z, rfl⟩ := mem_cells (k := 10) (x := x) (ns := ns) (by rw [hx]; simp)
    simp
    clear hr hx
    generalize hr : C i1 _ _ = o
    obtain ⟨g1, rfl, dk, _⟩ := h1 hr (by omega) (by omega)
    generalize g.length = n at *
    simp
    clear hr
    generalize hr : C i2 _ _ = o
    obtain ⟨h, g2, rfl, kh, _, _, _, u2⟩ := h2 hr dk (by omega) (by omega) (by omega) (by omega) (by omega)
    simp [kRng_of (n := 8) (by omega) (by omega)]
    clear hr
    generalize hr : forRun C _ _ _ _ _ = r
    obtain ⟨env', g', rfl, o4, o7, o8, o9, o10, o11, rfl, had, dk'⟩ := invD hr (fun pre env g' => ∃ (o4 o7 o8 o9 o10 o11 : Option W), env = [some (W.scr ns), some (W.d (.int z)), some (W.ref n), some (W.d h.d), o4, o5, o6, o7, o8, o9, o10, o11] ∧ (pre ≠ [] → Had8 h o9 o10) ∧ Dk g' n (300 + 10 * pre.length)) ⟨_, _, _, _, _, _, rfl, fun h => absurd rfl h, by simpa using u2.2⟩ (by
      rintro pre x post hx env g2 ⟨o4, o7, o8, o9, o10, o11, rfl, _, dk2⟩
      have hp := pre_len hx
      rw [upto_length] at hp
      simp
      clear hr hx
      generalize hr : C i3 _ _ = o
      obtain ⟨s, g3, rfl, sf, u3⟩ := h3 hr dk2 kh (by omega)
      simp
      clear hr
      generalize hr : C i4 _ _ = o
      obtain ⟨w, g4, rfl, w0, w1, u4⟩ := h4 hr u3.2 (by omega) (by omega) (by omega)
      obtain ⟨who, rfl⟩ : ∃ who, w = wI who := by
        rcases (by omega : w = 0 ∨ w = 1) with rfl | rfl
        · exact ⟨false, rfl⟩
        · exact ⟨true, rfl⟩
      have u := u3.trans u4
      have ch := fun g => h5 h s who g kh sf.p
      have c7 := fun g => h7 h s who g kh sf
      have hl : (choicesM h s who).length ≤ 5 := by
        have n : ∀ p : Deed → Bool, (allDeeds.filter p).length ≤ 4 := fun p => List.length_filter_le p allDeeds
        unfold choicesM
        split
        · have := n fun d => !decide (chg (seen h s who).heater (seen h s who).window (some d) = ((seen h s who).heater, (seen h s who).window))
          simp only [List.length_cons, List.length_map]; omega
        · simp
      have s1 := fun g => same_list h6 (xs := (choicesM h s who).map oD) (d := 0) (by rw [List.length_map]; omega) (fun x hx => by
        obtain ⟨t, _, rfl⟩ := List.mem_map.mp hx
        exact ⟨.str _, Nat.le_refl _⟩) (by omega) g
      simp [ch, c7, s1, -forRun_cons]
      clear hr
      generalize hr : forRun C _ _ _ _ _ = r
      obtain ⟨env', g5, rfl, ⟨o8, o11, rfl⟩, rfl⟩ := invD hr (fun pre env g' => (∃ o8 o11, env = [some (W.scr ns), some (W.d (.int z)), some (W.ref n), some (W.d h.d), some (W.d x), o5, o6, some (W.d (.list ((choicesM h s who).map oD))), o8, some (W.d s.d), some (W.d (.int (wI who))), o11]) ∧ g' = g4) ⟨⟨_, _, rfl⟩, rfl⟩ (by
        rintro pre y post hx env g5 ⟨⟨o8, o11, rfl⟩, rfl⟩
        obtain ⟨dy, iy⟩ := someD_is y (by rw [show someD = pre ++ y :: post from hx]; simp)
        cases hb : ((choicesM h s who).map oD).any fun x => PyData.eqv x y with
        | true =>
          obtain ⟨o, rfl, om⟩ : ∃ o, y = oD o ∧ o ∈ choicesM h s who := by
            rcases iy with ⟨o, rfl⟩ | iy
            · refine ⟨o, rfl, ?_⟩
              have := any_oD (o := o) (choicesM h s who)
              rw [show (PyData.str (oS o)) = oD o from rfl, hb] at this
              exact of_decide_eq_true this.symm
            · exfalso
              rw [List.any_map, List.any_eq_true] at hb
              obtain ⟨o, _, q⟩ := hb
              rw [Function.comp_apply, iy o] at q
              cases q
          have out := fun g => h8 h s who o g kh sf.p
          have told := t2 h s who o g5 kh sf om
          have s2 : ∀ g, C i6 [.d (.tuple [.str "told", outsD h s who o]), .d (.tuple [.str "told", outsD h s who o])] g = .ok (.d (.bool true)) g := fun g => by
            have c := cm_outs kh s who o
            exact h6 _ g (.tup (.cons (.str _) (.cons c.1 .nil)) (by simp)) (by have := c.2; simp [PyData.depth, PyData.depthAll]; omega)
          rw [List.any_map] at hb
          simp only [oD] at hb dy
          simp [oD, dy, hb, out]
          rw [try_told (ws := [.d h.d, .d (.int (wI who)), .d s.d, .d (.str (oS o))]) (by simp) told]
          simp [s2]
        | false =>
          have bad := t3 h s who y g5 kh sf dy hb
          have s2 : ∀ g, C i6 [.d (.str "deed +"), .d (.str "deed +")] g = .ok (.d (.bool true)) g := fun g => h6 _ g (.str _) (by simp [PyData.depth])
          rw [List.any_map] at hb
          simp [dy, hb]
          rw [try_exc (ws := [.d h.d, .d (.int (wI who)), .d s.d, .d y]) (by simp) bad kin_deed]
          simp [s2])
      simp
      exact ⟨_, _, _, _, _, ⟨rfl, rfl, rfl, rfl, rfl⟩, ⟨s, who, sf, rfl, rfl⟩, u.2.mono (by omega)⟩)
    obtain ⟨s, who, sf, rfl, rfl⟩ := had (by rw [← List.length_pos_iff, upto_length]; omega)
    clear hr had
    have f0 : ∀ g, idxO g h.d (.int 0) = .ok (.d (.tuple [.int h.top, .int h.heat, .tuple [.int h.l0, .int h.l1, .int h.l2, .int h.l3]])) g := fun _ => rfl
    have m2 : mulOk 2 h.top = true := mulOk_of (small (by omega) (by omega)) (small (by have := kh.t2; omega) (by have := kh.t4; omega))
    have e4 : ∀ g, idxO g s.d (.int 4) = .ok (.d (.tuple [.int s.p0, .int s.p1])) g := fun _ => rfl
    have c4 : ∀ g, sliceW g s.d none (some 4) = .ok (.d (.tuple [.int s.level, .bool s.heater, .bool s.window, .int s.phase])) g := fun _ => rfl
    have c3 : ∀ g, sliceW g s.d none (some 3) = .ok (.d (.tuple [.int s.level, .bool s.heater, .bool s.window])) g := fun _ => rfl
    have c1 : ∀ g, sliceW g s.d none (some 1) = .ok (.d (.tuple [.int s.level])) g := fun _ => rfl
    have d1 : ∀ g, sliceW g s.d (some 1) none = .ok (.d (.tuple [.bool s.heater, .bool s.window, .int s.phase, .tuple [.int s.p0, .int s.p1]])) g := fun _ => rfl
    have d2 : ∀ g, sliceW g s.d (some 2) none = .ok (.d (.tuple [.bool s.window, .int s.phase, .tuple [.int s.p0, .int s.p1]])) g := fun _ => rfl
    have bl : ∀ g, biW .list g [s.d] = newL g [.int s.level, .bool s.heater, .bool s.window, .int s.phase, .tuple [.int s.p0, .int s.p1]] := fun _ => rfl
    simp [f0, m2, binW_mul m2, e4, c4, c3, c1, d1, d2, bl, give_new, freeze_2, -forRun_cons]
    generalize hr : forRun C _ _ _ _ _ = r
    obtain ⟨env', g2, rfl, ⟨o6, rfl⟩, rfl⟩ := invD hr (fun pre env g2 => (∃ o6, env = [some (W.scr ns), some (W.d (.int z)), some (W.ref n), some (W.d h.d), o4, some (.d (.list ((badD h s).take 8))), o6, o7, o8, some (W.d s.d), some (W.d (.int (wI who))), o11]) ∧ g2 = g') ⟨⟨_, rfl⟩, rfl⟩ (by
      rintro pre x post hx env g2 ⟨⟨o6, rfl⟩, rfl⟩
      have bad := badD_is (s := s) kh x (by rw [show badD h s = pre ++ x :: post from hx]; simp)
      have b1 := t1 h x who g2 kh bad
      have b2 := t4 h x .none who g2 kh bad
      simp
      rw [try_exc (ws := [.d h.d, .d (.int (wI who)), .d x]) (by simp) b1 kin_stand]
      simp [PyData.depth]
      rw [try_exc (ws := [.d h.d, .d (.int (wI who)), .d x, .d .none]) (by simp) b2 kin_stand]
      simp [PyData.depth])
    simp)
  simp
end RF
end
set_option Elab.async false
set_option linter.all false
set_option maxRecDepth 100000
set_option maxHeartbeats 0
/-! The law k08: its tables, the chain of contracts, the end. Printed by lawgen.py. -/
namespace K08
open PySem PySem.Spec PyProof.Rows L2 RF
abbrev Pg : Program := PySem.Challenge.pw_roomfeud_k08_choices_and_what_follows
def n_is_within : List Str := ["value", "low", "high"]
def n_is_word : List Str := ["value", "words"]
def n_is_tries : List Str := ["value", "one"]
def n_is_line : List Str := ["value", "many"]
def n_is_book_value : List Str := ["value", "page", "one"]
def n_is_room_value : List Str := ["value", "one"]
def n_is_person_value : List Str := ["value", "top"]
def n_is_house_value : List Str := ["value", "room", "weathers", "people", "one"]
def n_need_house : List Str := ["value"]
def n_need_person : List Str := ["value"]
def n_period_of : List Str := ["house"]
def n_is_stand_value : List Str := ["house", "value", "page", "person"]
def n_need_stand : List Str := ["house", "value"]
def n_feeling_of : List Str := ["person", "level"]
def n_changed : List Str := ["devices", "deed", "heater", "window"]
def n_first_change : List Str := ["devices", "sought", "some", "deed"]
def n_looks : List Str := ["house", "stand", "who"]
def n_looked : List Str := ["house", "stand", "who", "person", "deed", "devices", "pages", "level", "heater", "window", "phase", "tries", "page"]
def n_change_of : List Str := ["house", "stand", "weather", "at", "top", "heat", "losses"]
def n_passed : List Str := ["house", "stand", "weather", "level"]
def n_choices_of : List Str := ["house", "who", "stand", "devices", "deed"]
def n_middle_of : List Str := ["house", "who", "stand", "deed", "devices"]
def n_outcomes_of : List Str := ["house", "who", "stand", "deed", "middle", "weather"]
def n_choices : List Str := ["house", "who", "stand"]
def n_outcomes : List Str := ["house", "who", "stand", "deed"]
def n__law_deck : List Str := ["_law_cell", "_law_turn"]
def n__law_pick : List Str := ["_law_deck_here", "_law_size", "_law_number", "_law_found"]
def n__law_one : List Str := ["_law_deck_here", "_law_some"]
def n__law_sort : List Str := ["_law_thing"]
def n__law_same : List Str := ["_law_told", "_law_due", "_law_k", "_law_part"]
def n__law_kin : List Str := ["_law_e", "_law_kinds_met", "_law_names", "_law_name", "_law_good"]
def n__law_try : List Str := ["_law_call_so", "_law_found"]
def n__law_tried : List Str := ["_law_deck_here", "_law_first", "_law_second", "_law_one_here"]
def n__law_book : List Str := ["_law_deck_here", "_law_most", "_law_turn", "_law_many", "_law_found", "_law_lines", "_law_feeling"]
def n__law_warm : List Str := ["_law_deck_here", "_law_cold", "_law_hot"]
def n__law_house : List Str := ["_law_deck_here", "_law_most", "_law_pages", "_law_top", "_law_losses", "_law_weathers_so", "_law_people", "_law_who", "_law_low", "_law_high", "_law_book_here", "_law_turn"]
def n__law_feel : List Str := ["_law_person", "_law_level"]
def n__law_set : List Str := ["_law_devices", "_law_deed"]
def n__law_looks : List Str := ["_law_house_here", "_law_stand", "_law_who"]
def n__law_look : List Str := ["_law_house_here", "_law_stand", "_law_who", "_law_deed", "_law_word", "_law_pair", "_law_devices", "_law_person", "_law_page", "_law_some", "_law_to"]
def n__law_period : List Str := ["_law_house_here", "_law_person"]
def n__law_gain : List Str := ["_law_house_here", "_law_stand", "_law_weather", "_law_losses", "_law_loss"]
def n__law_warmed : List Str := ["_law_house_here", "_law_stand", "_law_weather", "_law_level", "_law_phase"]
def n__law_chosen : List Str := ["_law_house_here", "_law_who", "_law_stand", "_law_now", "_law_deed"]
def n__law_middle : List Str := ["_law_house_here", "_law_who", "_law_stand", "_law_deed"]
def n__law_outs : List Str := ["_law_house_here", "_law_who", "_law_stand", "_law_deed", "_law_middle_here", "_law_weather"]
def n__law_any_stand : List Str := ["_law_deck_here", "_law_house_here", "_law_pages", "_law_level", "_law_phase", "_law_person"]
def n_law : List Str := ["_law_script", "_law_cell", "_law_deck_here", "_law_house_here", "_law_turn", "_law_bad", "_law_odd", "_law_some", "_law_deed", "_law_stand", "_law_who", "_law_due"]
def fns : List Fn := [d_is_within, d_is_word, d_is_tries 1, d_is_line 2 0, d_is_book_value 3, d_is_room_value 0, d_is_person_value 0 4, d_is_house_value 5 1 6, d_need_house 7, d_need_person 0, d_period_of, d_is_stand_value 0 10, d_need_stand 8 11, d_feeling_of, d_changed, d_first_change 14, d_looks, d_looked 16 13 15 14, d_change_of, d_passed 18 10, d_choices_of 16 17 14, d_middle_of 17 14, d_outcomes_of 21 19, d_choices 8 9 12 20, d_outcomes 8 9 12 20 22, d__law_deck, d__law_pick, d__law_one 26, d__law_sort, d__law_same 28 29, d__law_kin, d__law_try, d__law_tried 27 26, d__law_book 26 32, d__law_warm 27, d__law_house 26 27 34 33, d__law_feel, d__law_set, d__law_looks, d__law_look 38 36 37, d__law_period, d__law_gain, d__law_warmed 41 40, d__law_chosen 38 39 37, d__law_middle 39 37, d__law_outs 44 42, d__law_any_stand 26 40, d_law_k08 25 35 46 26 43 29 23 45]
def nms : List (List Str) := [n_is_within, n_is_word, n_is_tries, n_is_line, n_is_book_value, n_is_room_value, n_is_person_value, n_is_house_value, n_need_house, n_need_person, n_period_of, n_is_stand_value, n_need_stand, n_feeling_of, n_changed, n_first_change, n_looks, n_looked, n_change_of, n_passed, n_choices_of, n_middle_of, n_outcomes_of, n_choices, n_outcomes, n__law_deck, n__law_pick, n__law_one, n__law_sort, n__law_same, n__law_kin, n__law_try, n__law_tried, n__law_book, n__law_warm, n__law_house, n__law_feel, n__law_set, n__law_looks, n__law_look, n__law_period, n__law_gain, n__law_warmed, n__law_chosen, n__law_middle, n__law_outs, n__law_any_stand, n_law]
def cons : List (Str × D) := [("DEEDS", (.tuple [(.str "off"), (.str "on"), (.str "open"), (.str "shut")])), ("MOST_PAGES", (.int 3)), ("WEATHERS", (.tuple [(.str "cold"), (.str "mild")]))]
def free : List Str := ["all", "bool", "enumerate", "int", "isinstance", "len", "list", "max", "min", "range", "set", "sorted", "str", "tuple", "zip"]
def excs : List Str := ["InvalidHouse", "InvalidPerson", "InvalidStand", "InvalidDeed"]
def lams : List Str := ["law"]
def defsOf (p : Program) : List He.DefD := p.main.body.filterMap fun s => match s with
  | .FunctionDef n a b [] none [] sc _ _ _ => some ⟨(n, none), n, n, a, b, sc, [], []⟩
  | _ => none
def zip3 : List He.DefD → List Fn → List (List Str) → List Df
  | d :: ds, f :: fs, n :: ns => ⟨d, f, n⟩ :: zip3 ds fs ns
  | _, _, _ => []
def xs : List Df := zip3 (defsOf Pg) fns nms
theorem ckall : (xs.all fun x => ckD (tabOf xs cons free excs lams) x) = true := by decide +kernel
theorem few : fns.length ≤ 1000 := by decide
theorem fns_xs : xs.map (·.f) = fns := by rfl
theorem c_is_within (k : Nat) : S_is_within (run fns (k + 1) 0) := by rw [run_at (d := d_is_within) rfl]; exact ev_is_within 
theorem c_is_word (k : Nat) : S_is_word (run fns (k + 1) 1) := by rw [run_at (d := d_is_word) rfl]; exact ev_is_word 
theorem c_is_tries (k : Nat) : S_is_tries (run fns (k + 2) 2) := by rw [run_at (d := d_is_tries 1) rfl]; exact ev_is_tries (c_is_word k)
theorem c_is_line (k : Nat) : S_is_line (run fns (k + 3) 3) := by rw [run_at (d := d_is_line 2 0) rfl]; exact ev_is_line (c_is_tries k) (c_is_within (k + 1))
theorem c_is_book_value (k : Nat) : S_is_book_value (run fns (k + 4) 4) := by rw [run_at (d := d_is_book_value 3) rfl]; exact ev_is_book_value (c_is_line k)
theorem c_is_room_value (k : Nat) : S_is_room_value (run fns (k + 2) 5) := by rw [run_at (d := d_is_room_value 0) rfl]; exact ev_is_room_value (c_is_within k)
theorem c_is_person_value (k : Nat) : S_is_person_value (run fns (k + 5) 6) := by rw [run_at (d := d_is_person_value 0 4) rfl]; exact ev_is_person_value (c_is_within (k + 3)) (c_is_book_value k)
theorem c_is_house_value (k : Nat) : S_is_house_value (run fns (k + 6) 7) := by rw [run_at (d := d_is_house_value 5 1 6) rfl]; exact ev_is_house_value (c_is_room_value (k + 3)) (c_is_word (k + 4)) (c_is_person_value k)
theorem c_need_house (k : Nat) : S_need_house (run fns (k + 7) 8) := by rw [run_at (d := d_need_house 7) rfl]; exact ev_need_house (c_is_house_value k)
theorem c_need_person (k : Nat) : S_need_person (run fns (k + 2) 9) := by rw [run_at (d := d_need_person 0) rfl]; exact ev_need_person (c_is_within k)
theorem c_period_of (k : Nat) : S_period_of (run fns (k + 1) 10) := by rw [run_at (d := d_period_of) rfl]; exact ev_period_of 
theorem c_is_stand_value (k : Nat) : S_is_stand_value (run fns (k + 2) 11) := by rw [run_at (d := d_is_stand_value 0 10) rfl]; exact ev_is_stand_value (c_is_within k) (c_period_of k)
theorem c_need_stand (k : Nat) : S_need_stand (run fns (k + 8) 12) := by rw [run_at (d := d_need_stand 8 11) rfl]; exact ev_need_stand (c_need_house k) (c_is_stand_value (k + 5))
theorem c_feeling_of (k : Nat) : S_feeling_of (run fns (k + 1) 13) := by rw [run_at (d := d_feeling_of) rfl]; exact ev_feeling_of 
theorem c_changed (k : Nat) : S_changed (run fns (k + 1) 14) := by rw [run_at (d := d_changed) rfl]; exact ev_changed 
theorem c_first_change (k : Nat) : S_first_change (run fns (k + 2) 15) := by rw [run_at (d := d_first_change 14) rfl]; exact ev_first_change (c_changed k)
theorem c_looks (k : Nat) : S_looks (run fns (k + 1) 16) := by rw [run_at (d := d_looks) rfl]; exact ev_looks 
theorem c_looked (k : Nat) : S_looked (run fns (k + 3) 17) := by rw [run_at (d := d_looked 16 13 15 14) rfl]; exact ev_looked (c_looks (k + 1)) (c_feeling_of (k + 1)) (c_first_change k) (c_changed (k + 1))
theorem c_change_of (k : Nat) : S_change_of (run fns (k + 1) 18) := by rw [run_at (d := d_change_of) rfl]; exact ev_change_of 
theorem c_passed (k : Nat) : S_passed (run fns (k + 2) 19) := by rw [run_at (d := d_passed 18 10) rfl]; exact ev_passed (c_change_of k) (c_period_of k)
theorem c_choices_of (k : Nat) : S_choices_of (run fns (k + 4) 20) := by rw [run_at (d := d_choices_of 16 17 14) rfl]; exact ev_choices_of (c_looks (k + 2)) (c_looked k) (c_changed (k + 2))
theorem c_middle_of (k : Nat) : S_middle_of (run fns (k + 4) 21) := by rw [run_at (d := d_middle_of 17 14) rfl]; exact ev_middle_of (c_looked k) (c_changed (k + 2))
theorem c_outcomes_of (k : Nat) : S_outcomes_of (run fns (k + 5) 22) := by rw [run_at (d := d_outcomes_of 21 19) rfl]; exact ev_outcomes_of (c_middle_of k) (c_passed (k + 2))
theorem c_choices (k : Nat) : S_choices (run fns (k + 9) 23) := by rw [run_at (d := d_choices 8 9 12 20) rfl]; exact ev_choices (c_need_house (k + 1)) (c_need_person (k + 6)) (c_need_stand k) (c_choices_of (k + 4))
theorem c_outcomes (k : Nat) : S_outcomes (run fns (k + 9) 24) := by rw [run_at (d := d_outcomes 8 9 12 20 22) rfl]; exact ev_outcomes (c_need_house (k + 1)) (c_need_person (k + 6)) (c_need_stand k) (c_choices_of (k + 4)) (c_outcomes_of (k + 3))
theorem c__law_deck (k : Nat) : S__law_deck (run fns (k + 1) 25) := by rw [run_at (d := d__law_deck) rfl]; exact ev__law_deck 
theorem c__law_pick (k : Nat) : S__law_pick (run fns (k + 1) 26) := by rw [run_at (d := d__law_pick) rfl]; exact ev__law_pick 
theorem c__law_one (k : Nat) : S__law_one (run fns (k + 2) 27) := by rw [run_at (d := d__law_one 26) rfl]; exact ev__law_one (c__law_pick k)
theorem c__law_sort (k : Nat) : S__law_sort (run fns (k + 1) 28) := by rw [run_at (d := d__law_sort) rfl]; exact ev__law_sort 
theorem same_k : ∀ j k : Nat, S__law_same j (run fns (k + j + 1) 29)
  | 0, _ => fun _ _ _ h => absurd h (by omega)
  | j + 1, k => by
    rw [show k + (j + 1) + 1 = (k + j + 1) + 1 from rfl, run_at (d := d__law_same 28 29) rfl]
    exact ev__law_same (c__law_sort (k + j)) (same_k j k)
theorem c__law_same (k : Nat) : S__law_same 10 (run fns (k + 11) 29) := same_k 10 k
theorem c__law_tried (k : Nat) : S__law_tried (run fns (k + 3) 32) := by rw [run_at (d := d__law_tried 27 26) rfl]; exact ev__law_tried (c__law_one k) (c__law_pick (k + 1))
theorem c__law_book (k : Nat) : S__law_book (run fns (k + 4) 33) := by rw [run_at (d := d__law_book 26 32) rfl]; exact ev__law_book (c__law_pick (k + 2)) (c__law_tried k)
theorem c__law_warm (k : Nat) : S__law_warm (run fns (k + 3) 34) := by rw [run_at (d := d__law_warm 27) rfl]; exact ev__law_warm (c__law_one k)
theorem c__law_house (k : Nat) : S__law_house (run fns (k + 5) 35) := by rw [run_at (d := d__law_house 26 27 34 33) rfl]; exact ev__law_house (c__law_pick (k + 3)) (c__law_one (k + 2)) (c__law_warm (k + 1)) (c__law_book k)
theorem c__law_feel (k : Nat) : S__law_feel (run fns (k + 1) 36) := by rw [run_at (d := d__law_feel) rfl]; exact ev__law_feel 
theorem c__law_set (k : Nat) : S__law_set (run fns (k + 1) 37) := by rw [run_at (d := d__law_set) rfl]; exact ev__law_set 
theorem c__law_looks (k : Nat) : S__law_looks (run fns (k + 1) 38) := by rw [run_at (d := d__law_looks) rfl]; exact ev__law_looks 
theorem c__law_look (k : Nat) : S__law_look (run fns (k + 2) 39) := by rw [run_at (d := d__law_look 38 36 37) rfl]; exact ev__law_look (c__law_looks k) (c__law_feel k) (c__law_set k)
theorem c__law_period (k : Nat) : S__law_period (run fns (k + 1) 40) := by rw [run_at (d := d__law_period) rfl]; exact ev__law_period 
theorem c__law_gain (k : Nat) : S__law_gain (run fns (k + 1) 41) := by rw [run_at (d := d__law_gain) rfl]; exact ev__law_gain 
theorem c__law_warmed (k : Nat) : S__law_warmed (run fns (k + 2) 42) := by rw [run_at (d := d__law_warmed 41 40) rfl]; exact ev__law_warmed (c__law_gain k) (c__law_period k)
theorem c__law_chosen (k : Nat) : S__law_chosen (run fns (k + 3) 43) := by rw [run_at (d := d__law_chosen 38 39 37) rfl]; exact ev__law_chosen (c__law_looks (k + 1)) (c__law_look k) (c__law_set (k + 1))
theorem c__law_middle (k : Nat) : S__law_middle (run fns (k + 3) 44) := by rw [run_at (d := d__law_middle 39 37) rfl]; exact ev__law_middle (c__law_look k) (c__law_set (k + 1))
theorem c__law_outs (k : Nat) : S__law_outs (run fns (k + 4) 45) := by rw [run_at (d := d__law_outs 44 42) rfl]; exact ev__law_outs (c__law_middle k) (c__law_warmed (k + 1))
theorem c__law_any_stand (k : Nat) : S__law_any_stand (run fns (k + 2) 46) := by rw [run_at (d := d__law_any_stand 26 40) rfl]; exact ev__law_any_stand (c__law_pick k) (c__law_period k)
theorem t_choices_bad (k : Nat) : S_choices_bad (run fns (k + 11) 1023) := by rw [show run fns (k + 11) 1023 = run fns (k + 9) 23 from (run_far few 23).2.2 (k + 9), run_at (d := d_choices 8 9 12 20) rfl]; exact ev_choices_bad (c_need_house (k + 1)) (c_need_person (k + 6)) (c_need_stand (k + 0))
theorem t_outcomes (k : Nat) : S_outcomes (run fns (k + 11) 1024) := by rw [show run fns (k + 11) 1024 = run fns (k + 9) 24 from (run_far few 24).2.2 (k + 9), run_at (d := d_outcomes 8 9 12 20 22) rfl]; exact ev_outcomes (c_need_house (k + 1)) (c_need_person (k + 6)) (c_need_stand (k + 0)) (c_choices_of (k + 4)) (c_outcomes_of (k + 3))
theorem t_outcomes_no (k : Nat) : S_outcomes_no (run fns (k + 11) 1024) := by rw [show run fns (k + 11) 1024 = run fns (k + 9) 24 from (run_far few 24).2.2 (k + 9), run_at (d := d_outcomes 8 9 12 20 22) rfl]; exact ev_outcomes_no (c_need_house (k + 1)) (c_need_person (k + 6)) (c_need_stand (k + 0)) (c_choices_of (k + 4))
theorem t_outcomes_bad (k : Nat) : S_outcomes_bad (run fns (k + 11) 1024) := by rw [show run fns (k + 11) 1024 = run fns (k + 9) 24 from (run_far few 24).2.2 (k + 9), run_at (d := d_outcomes 8 9 12 20 22) rfl]; exact ev_outcomes_bad (c_need_house (k + 1)) (c_need_person (k + 6)) (c_need_stand (k + 0))
theorem law_true (ns : List Int) (h : ns.length ≤ 63) : ∃ g, run (xs.map (·.f)) 12 47 [.scr ns] [] = .ok (.d (.bool true)) g := by
  rw [fns_xs, run_at (d := d_law_k08 25 35 46 26 43 29 23 45) rfl]
  exact ev_law_k08 (c__law_deck 10) (c__law_house 6) (c__law_any_stand 9) (c__law_pick 10) (c__law_chosen 8) (c__law_same 0) (c_choices 2) (c__law_outs 7) (t_choices_bad 0) (t_outcomes 0) (t_outcomes_no 0) (t_outcomes_bad 0) ns (by omega)
theorem law_ex : ∃ x : Df, xs[47]? = some x ∧ x.ps = [("_law_script" : Str)] ∧ x.d.name = ("law" : Str) := ⟨_, rfl, rfl, rfl⟩
abbrev R : PySem.W.OpenRow := PySem.W.OpenLaw.row PySem.Challenge.rw_roomfeud_k08_choices_and_what_follows
abbrev hk : PySem.W.Hook := hookF 2 xs cons free excs lams
def ob (s : PySem.W.SharedT) : He.AlX := He.obsX 2 (faOf (xs.map (·.d)) free excs lams) (xs.map (·.d)) [] ((lamT xs).map fun n => (n, none)) (exB xs cons lams) (HandSHeadRun.getT s)
theorem ob_eq (s : PySem.W.SharedT) : ob s = hk.obs s.abs := He.obsX_eq (HandSHeadRun.getT_eq s)
def names : List Str := R.prog.boundNames.filter fun n => !(n == ("law" : Str)) && !(n == ("__name__" : Str))
theorem run (w : World) : HandSHeadRun.RunEq R (PySem.W.view R.prog [71]) hk ob 9000 names w := by
  intro os
  kernel_rfl
end K08
open PySem PySem.W PySem.Calls PyProof.Rows
theorem PySem.Challenge.cw_roomfeud_k08_choices_and_what_follows_holds : PySem.Challenge.rw_roomfeud_k08_choices_and_what_follows.Holds := by
  w_on; o_law
  refine HandSHeadRun.head_any (r := OpenLaw.row PySem.Challenge.rw_roomfeud_k08_choices_and_what_follows) (q := view (OpenLaw.row PySem.Challenge.rw_roomfeud_k08_choices_and_what_follows).prog [71]) (H := K08.hk) (ob := K08.ob) (M := 9000) (loose := K08.names) (d := HandSHeadRun.topDef (OpenLaw.row PySem.Challenge.rw_roomfeud_k08_choices_and_what_follows).prog 71) (kwd := []) K08.ob_eq
    (by kernel_rfl) (fun s => by kernel_rfl) K08.run (by kernel_rfl) (by kernel_rfl) (by kernel_rfl) (by rfl) (by first | assumption | decide +kernel) (by decide +kernel) ⟨rfl, rfl, rfl, rfl, rfl, by decide +kernel⟩ ?hw ?hc
  case hw => w_witness2
  case hc =>
    obtain ⟨x, hx, hy, hn⟩ := K08.law_ex
    exact RF.law_end (l := PySem.Challenge.rw_roomfeud_k08_choices_and_what_follows) (n := 63) (k := 12) (i := 47) (xs := K08.xs) (consts := K08.cons) (free := K08.free) (excs := K08.excs) (lams := K08.lams) (x := x) (y := "_law_script")
      rfl (by decide) (by kernel_rfl) ⟨rfl, by decide, by decide⟩ K08.ckall (by decide +kernel) (by decide +kernel) (by decide +kernel) hx hy (hn.trans (by kernel_rfl)) (fun ns h _ => K08.law_true ns h)
