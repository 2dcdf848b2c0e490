import PyProof.Rows.All
import Wide.All
import OpenK.AllK
import Wide.FinOn
import HandS.ForMost
import HandS.ForExc
import HandS.IsInst
import HandS.Wide
import HandS.TupAny
import HandS.TupMul
import HandS.Style
import HandS.Zip
import HandS.TupSets
import HandS.Deep
import HandS.ExcIs
import HandS.EndBits
import KE.LtData
import KE.GoesEnum
import KE.GoesMore
import KE.DataMinMax
import KE.SortData
import KE.KTupSum
import KE.GoesZip
import KE.KItemsList
import HandS.ListItems
import HandS.Defaults
import HandS.Head0
import HandS.Head1
import HandS.Head2
import HandS.HeadEnd
import HandS.HeadHook1
import HandS.HeadHook2
import PySem.Challenge.RW_coinslots_k04_whole_paying
set_option Elab.async false
set_option linter.all false
set_option maxRecDepth 100000
set_option maxHeartbeats 0
/-! the own data, the own text, the evaluator -/
namespace CS
open PySem

inductive D where
  | non | bl (b : Bool) | int (i : Int) | str (s : Str) | tup (xs : List D) | lst (xs : List D) | scr (ns : List Int) | dct (ks vs : List D) | fn (n : Nat)

mutual
def D.py : D → PyData
  | .non => .none | .bl b => .bool b | .int i => .int i | .str s => .str s
  | .tup xs => .tuple (D.pys xs) | .lst xs => .list (D.pys xs)
  | .scr ns => .list (ns.map PyData.int) | .dct _ _ => .dict [] | .fn _ => .dict []
def D.pys : List D → List PyData
  | [] => [] | x :: xs => x.py :: D.pys xs
end
mutual
/-- no list within -/
def D.flat : D → Bool
  | .tup xs => D.flats xs | .lst _ => false | .dct _ _ => false
  | _ => true
def D.flats : List D → Bool
  | [] => true | x :: xs => x.flat && D.flats xs
end

inductive Res (α : Type) where
  | val (a : α) | exc (c : Nat) | bad
def Res.bind {α β : Type} : Res α → (α → Res β) → Res β
  | .val a, f => f a
  | .exc c, _ => .exc c
  | .bad, _ => .bad
abbrev Rho := List (Option D)

inductive B1 where
  | len | sum | all | any | tuple | list | int | max | min | sorted
  deriving DecidableEq
inductive Tg where
  | nm (i : Nat) | nil | cons (t ts : Tg) | tup (ts : Tg)

inductive E where
  | non | bl (b : Bool) | int (i : Int) | str (s : Str)
  | var (i : Nat) | gc (k : Nat)
  | anil | acons (a es : E)
  | tup (es : E) | lst (es : E)
  | bin (o : Operator) (a b : E)
  | neg (a : E) | not (a : E) | and (a b : E) | or (a b : E)
  | cmp (o : CmpOp) (a b : E) | chain (o o' : CmpOp) (a b c : E)
  | ife (c a b : E)
  | ix (a i : E) | sl (a lo hi : E) | rev (a : E)
  | b1 (f : B1) (a : E) | isi (a : E) (T : Nat)
  | call (f : Nat) (es : E) | callIf (c : E) (f g : Nat) (es : E) | callIx (fs : List Nat) (i es : E)
  | rng (es : E) | zip (es : E) | enm (a : E) | mm (mx : Bool) (a b : E) | lz (es : E) | sset (a : E)
  | lc (elt : E) (tg : Tg) (it cond : E) (own : List (Str × Nat))

structure Fn where
  name : Str
  ps : List Str
  sem : List D → Res D
  fresh : Bool
structure Tb where
  fns : List Fn
  cons : List (Str × D)
  exs : List Str

def big (n : Nat) : Bool := Nat.ble n 16777216

def mulOk (i j : Int) : Bool := (decide (-(2 ^ 64) < i) && decide (i < 2 ^ 64)) || (decide (-(2 ^ 64) < j) && decide (j < 2 ^ 64))
def divOk (j : Int) : Bool := decide (0 < j) && decide (j < 2 ^ 200)
def powOk (i j : Int) : Bool := decide (0 ≤ j) && decide (j ≤ 1000) && decide (i.natAbs < 2 ^ 64)

def addD : D → D → Res D
  | .int i, .int j => .val (.int (i + j))
  | .tup xs, .tup ys => if big (xs.length + ys.length) then .val (.tup (xs ++ ys)) else .bad
  | .lst xs, .lst ys => if big (xs.length + ys.length) then .val (.lst (xs ++ ys)) else .bad
  | _, _ => .bad
def subD : D → D → Res D
  | .int i, .int j => .val (.int (i - j))
  | _, _ => .bad
def repD {α : Type} (xs : List α) (k : Nat) : List α := (List.replicate k xs).flatten
def mulD : D → D → Res D
  | .int i, .int j => if mulOk i j then .val (.int (i * j)) else .bad
  | .tup xs, .int k => if decide (1 ≤ k) && decide (k ≤ 1000) && !xs.isEmpty && Nat.ble xs.length 1000 then .val (.tup (repD xs k.toNat)) else .bad
  | .lst xs, .int k => if decide (0 ≤ k) && decide (k ≤ 1000) && Nat.ble xs.length 1000 then .val (.lst (repD xs k.toNat)) else .bad
  | _, _ => .bad
def divD : D → D → Res D
  | .int i, .int j => if divOk j then .val (.int (i / j)) else .bad
  | _, _ => .bad
def modD : D → D → Res D
  | .int i, .int j => if decide (0 < j) then .val (.int (i % j)) else .bad
  | _, _ => .bad
def powD : D → D → Res D
  | .int i, .int j => if powOk i j then .val (.int (i ^ j.toNat)) else .bad
  | _, _ => .bad
def binD : Operator → D → D → Res D
  | .Add => addD | .Sub => subD | .Mult => mulD | .FloorDiv => divD | .Mod => modD | .Pow => powD
  | _ => fun _ _ => .bad
def negD : D → Res D
  | .int i => .val (.int (-i))
  | _ => .bad

def shp (d : D) : Bool := SeqAt.shaped d.py
def eqD (a b : D) : Bool := PyData.eqv a.py b.py
mutual
/-- intsD, texts, boolsD, None -/
def D.sc : D → Bool
  | .non => true | .bl _ => true | .int _ => true | .str _ => true
  | _ => false
end
def inD (a : D) (xs : List D) : Bool := xs.any fun z => eqD z a
def isD : D → D → Res Bool
  | .non, .non => .val true
  | .bl a, .bl b => .val (decide (a = b))
  | .non, .bl _ => .bad
  | _, .non => .val false
  | _, _ => .bad
def cmpD : CmpOp → D → D → Res D
  | .Eq, a, b => if shp a && shp b then .val (.bl (eqD a b)) else .bad
  | .NotEq, a, b => if shp a && shp b then .val (.bl (!eqD a b)) else .bad
  | .Lt, .int i, .int j => .val (.bl (decide (i < j)))
  | .LtE, .int i, .int j => .val (.bl (decide (i ≤ j)))
  | .Gt, .int i, .int j => .val (.bl (decide (j < i)))
  | .GtE, .int i, .int j => .val (.bl (decide (j ≤ i)))
  | .In, a, .tup xs => if a.sc && xs.all D.sc then .val (.bl (inD a xs)) else .bad
  | .In, a, .lst xs => if shp a && shp (.lst xs) then .val (.bl (inD a xs)) else .bad
  | .NotIn, a, .lst xs => if shp a && shp (.lst xs) then .val (.bl (!inD a xs)) else .bad
  | .Is, a, b => (isD a b).bind fun c => .val (.bl c)
  | .IsNot, a, b => (isD a b).bind fun c => .val (.bl (!c))
  | _, _, _ => .bad

def ixN (n : Nat) (i : Int) : Option Nat := if 0 ≤ i then (if i < n then some i.toNat else none) else if -(n : Int) ≤ i then some (i + n).toNat else none
def atD (xs : List D) (i : Int) : Res D := match (ixN xs.length i).bind fun j => xs[j]? with
  | some d => .val d
  | none => .bad
def ixD : D → D → Res D
  | .tup xs, .int i => atD xs i
  | .lst xs, .int i => atD xs i
  | .scr ns, .int i => atD (ns.map D.int) i
  | _, _ => .bad
def sIx (n d : Nat) : Option Int → Nat := HT.sIx n d
def cut {α : Type} (xs : List α) (lo hi : Option Int) : List α := (xs.drop (HT.sIx xs.length 0 lo)).take (HT.sIx xs.length xs.length hi - HT.sIx xs.length 0 lo)
def slD : D → Option Int → Option Int → Res D
  | .tup xs, lo, hi => .val (.tup (cut xs lo hi))
  | .lst xs, lo, hi => .val (.lst (cut xs lo hi))
  | _, _, _ => .bad
def revD : D → Res D
  | .lst xs => .val (.lst xs.reverse)
  | _ => .bad

def intsD : List D → Option (List Int)
  | [] => some []
  | .int i :: r => (intsD r).map (i :: ·)
  | _ :: _ => none
def boolsD : List D → Option (List Bool)
  | [] => some []
  | .bl i :: r => (boolsD r).map (i :: ·)
  | _ :: _ => none
def ltD (a b : D) : Bool := PySem.W.dataLt a.py b.py
def D.item : D → Bool
  | .bl _ => true | .int _ => true | .str _ => true | .tup _ => true
  | _ => false
/-- all these can be compared with one another -/
def cmpB (xs : List D) : Bool := xs.all fun a => a.item && xs.all fun b => PySem.W.alike a.py b.py
def D.tup1 : D → Bool
  | .tup (_ :: _) => true
  | _ => false
def D.tup0 : D → Bool
  | .tup _ => true
  | _ => false
def sortB (xs : List D) : Bool := xs.all D.tup1 || xs.all fun a => !a.tup0
def maxL (x : D) (xs : List D) : D := xs.foldl (fun a y => if ltD a y then y else a) x
def minL (x : D) (xs : List D) : D := xs.foldl (fun a y => if ltD y a then y else a) x
def sortL (xs : List D) : List D := xs.mergeSort fun a b => !ltD b a
def mmD (mx : Bool) : D → D → Res D
  | .int i, .int j => .val (.int (if mx then (if j > i then j else i) else (if j < i then j else i)))
  | _, _ => .bad
def b1D : B1 → D → Res D
  | .max, .lst (x :: xs) => if cmpB (x :: xs) && shp (.lst (x :: xs)) then .val (maxL x xs) else .bad
  | .min, .lst (x :: xs) => if cmpB (x :: xs) && shp (.lst (x :: xs)) then .val (minL x xs) else .bad
  | .sorted, .lst xs => if cmpB xs && sortB xs && shp (.lst xs) then .val (.lst (sortL xs)) else .bad
  | .len, .tup xs => .val (.int xs.length)
  | .len, .lst xs => .val (.int xs.length)
  | .len, .scr xs => .val (.int xs.length)
  | .sum, .lst xs => match intsD xs with | some ns => .val (.int ns.sum) | none => .bad
  | .sum, .tup xs => match intsD xs with | some ns => .val (.int ns.sum) | none => .bad
  | .all, .lst xs => match boolsD xs with | some bs => .val (.bl (bs.all id)) | none => .bad
  | .any, .lst xs => match boolsD xs with | some bs => .val (.bl (bs.any id)) | none => .bad
  | .tuple, .lst xs => .val (.tup xs)
  | .tuple, .tup xs => .val (.tup xs)
  | .list, .lst xs => .val (.lst xs)
  | .list, .tup xs => .val (.lst xs)
  | .int, .int i => .val (.int i)
  | _, _ => .bad
/-- the built-in classes: 0 int, 1 bool, 2 str, 3 tuple, 4 list -/
def tyNo : D → Option Nat
  | .int _ => some 0 | .bl _ => some 1 | .str _ => some 2 | .tup _ => some 3 | .lst _ => some 4 | .non => some 5
  | _ => none
def isiD (d : D) (T : Nat) : Res D := match tyNo d with
  | some k => .val (.bl (k == T || (k == 1 && T == 0)))
  | none => .bad

def optI : D → Res (Option Int)
  | .int i => .val (some i)
  | _ => .bad
def argsD : D → Res (List D)
  | .lst xs => .val xs
  | _ => .bad
def itemsD : D → Res (List D)
  | .lst xs => .val xs
  | .tup xs => .val xs
  | _ => .bad
def rngL (lo : Int) : Nat → List D
  | 0 => []
  | n + 1 => .int lo :: rngL (lo + 1) n
def rngD : List D → Res D
  | [.int n] => if decide (-(2 ^ 62) ≤ n) && decide (n < 2 ^ 62) then .val (.lst (rngL 0 n.toNat)) else .bad
  | [.int m, .int n] => if decide (-(2 ^ 62) ≤ m) && decide (m < 2 ^ 62) && decide (-(2 ^ 62) ≤ n) && decide (n < 2 ^ 62) then .val (.lst (rngL m (n - m).toNat)) else .bad
  | _ => .bad
def zipL : List D → List D → List D
  | x :: xs, y :: ys => .tup [x, y] :: zipL xs ys
  | _, _ => []
def zipL3 : List D → List D → List D → List D
  | x :: xs, y :: ys, z :: zs => .tup [x, y, z] :: zipL3 xs ys zs
  | _, _, _ => []
def zipD : List D → Res D
  | [a, b] => (itemsD a).bind fun xs => (itemsD b).bind fun ys => .val (.lst (zipL xs ys))
  | [a, b, c] => (itemsD a).bind fun xs => (itemsD b).bind fun ys => (itemsD c).bind fun zs => .val (.lst (zipL3 xs ys zs))
  | _ => .bad
def lzD : List D → Res D
  | [a, b] => (itemsD a).bind fun xs => (itemsD b).bind fun ys => if big (zipL xs ys).length then .val (.lst (zipL xs ys)) else .bad
  | _ => .bad
def tupI : D → Option (List Int)
  | .tup xs => intsD xs
  | _ => none
def tupsI : List D → Option (List (List Int))
  | [] => some []
  | x :: xs => (tupI x).bind fun t => (tupsI xs).map (t :: ·)
/-- each once -/
def ddT : List (List Int) → List (List Int)
  | [] => []
  | x :: xs => if xs.contains x then ddT xs else x :: ddT xs
def ssT (ts : List (List Int)) : List (List Int) := (ddT ts).mergeSort fun a b => decide (TS.code 64 a ≤ TS.code 64 b)
def ssOk (ts : List (List Int)) : Bool := Nat.ble (ts.length + 1) 64 && ts.all fun t => t.length == (ts.headD [0]).length && Nat.ble 1 t.length && t.all fun x => decide (0 ≤ x) && decide (x < 64)
/-- sorted(set(xs)), xs a list of tuples of ints -/
def ssD : D → Res D
  | .lst xs => match tupsI xs with
    | some ts => if ssOk ts then .val (.lst ((ssT ts).map fun t => .tup (t.map .int))) else .bad
    | none => .bad
  | _ => .bad
def enmL (i : Int) : List D → List D
  | [] => []
  | x :: xs => .tup [.int i, x] :: enmL (i + 1) xs

/-- what a target stores, in order -/
def flatT : Tg → D → Option (List (Nat × D))
  | .nm i, d => some [(i, d)]
  | .tup ts, .tup ds => flatT ts (.tup ds)
  | .nil, .tup [] => some []
  | .cons t ts, .tup (d :: ds) => (flatT t d).bind fun l => (flatT ts (.tup ds)).map (l ++ ·)
  | _, _ => none
def setR (r : Rho) : List (Nat × D) → Rho
  | [] => r
  | (i, d) :: l => setR (r.set i (some d)) l
def bindT (t : Tg) (d : D) (r : Rho) : Option Rho := (flatT t d).map (setR r)
def wipe (r : Rho) : List Nat → Rho
  | [] => r
  | v :: vs => (wipe r vs).set v none
def lcGo (f : D → Res (Option D)) : List D → Res (List D)
  | [] => .val []
  | x :: xs => match f x with
    | .val o => (lcGo f xs).bind fun ys => .val (match o with | some y => y :: ys | none => ys)
    | _ => .bad
def callF (T : Tb) (k : Nat) (ds : List D) : Res D := match T.fns[k]? with
  | some f => if ds.length == f.ps.length then f.sem ds else .bad
  | none => .bad

def isAnil : E → Bool
  | .anil => true
  | _ => false
def boolD : D → Res Bool
  | .bl b => .val b
  | _ => .bad
def ev (T : Tb) : E → Rho → Res D
  | .non, _ => .val .non
  | .bl b, _ => .val (.bl b)
  | .int i, _ => .val (.int i)
  | .str s, _ => .val (.str s)
  | .var i, r => match r[i]? with | some (some d) => .val d | _ => .bad
  | .gc k, _ => match T.cons[k]? with | some p => .val p.2 | none => .bad
  | .anil, _ => .val (.lst [])
  | .acons a es, r => (ev T a r).bind fun x => (ev T es r).bind fun y => (argsD y).bind fun ys => .val (.lst (x :: ys))
  | .tup es, r => (ev T es r).bind fun y => (argsD y).bind fun ys => if big ys.length then .val (.tup ys) else .bad
  | .lst es, r => (ev T es r).bind fun y => (argsD y).bind fun ys => if big ys.length then .val (.lst ys) else .bad
  | .bin o a b, r => (ev T a r).bind fun x => (ev T b r).bind fun y => binD o x y
  | .neg a, r => (ev T a r).bind negD
  | .not a, r => (ev T a r).bind fun x => match x with | .bl c => .val (.bl (!c)) | _ => .bad
  | .and a b, r => (ev T a r).bind fun x => match x with | .bl true => ev T b r | .bl false => .val (.bl false) | _ => .bad
  | .or a b, r => (ev T a r).bind fun x => match x with | .bl true => .val (.bl true) | .bl false => ev T b r | _ => .bad
  | .cmp o a b, r => (ev T a r).bind fun x => (ev T b r).bind fun y => cmpD o x y
  | .chain o o' a b c, r => (ev T a r).bind fun x => (ev T b r).bind fun y => (cmpD o x y).bind fun z => match z with
      | .bl true => (ev T c r).bind fun u => cmpD o' y u
      | .bl false => .val (.bl false)
      | _ => .bad
  | .ife c a b, r => (ev T c r).bind fun x => match x with | .bl true => ev T a r | .bl false => ev T b r | _ => .bad
  | .ix a i, r => (ev T a r).bind fun x => (ev T i r).bind fun y => ixD x y
  | .sl a lo hi, r => (ev T a r).bind fun x => (if isAnil lo then .val none else (ev T lo r).bind optI : Res (Option Int)).bind fun l => (if isAnil hi then .val none else (ev T hi r).bind optI : Res (Option Int)).bind fun h => slD x l h
  | .rev a, r => (ev T a r).bind revD
  | .b1 f a, r => (ev T a r).bind fun x => b1D f x
  | .isi a k, r => (ev T a r).bind fun x => isiD x k
  | .call f es, r => (ev T es r).bind fun y => (argsD y).bind fun ys => callF T f ys
  | .callIf c f g es, r => (ev T c r).bind fun x => (match x with | .bl true => .val f | .bl false => .val g | _ => .bad : Res Nat).bind fun k => (ev T es r).bind fun y => (argsD y).bind fun ys => callF T k ys
  | .callIx fs i es, r => (ev T i r).bind fun x => (match x with | .int j => (match (ixN fs.length j).bind fun n => fs[n]? with | some k => .val k | none => .bad) | _ => .bad : Res Nat).bind fun k => (ev T es r).bind fun y => (argsD y).bind fun ys => callF T k ys
  | .rng es, r => (ev T es r).bind fun y => (argsD y).bind rngD
  | .zip es, r => (ev T es r).bind fun y => (argsD y).bind zipD
  | .lz es, r => (ev T es r).bind fun y => (argsD y).bind lzD
  | .sset a, r => (ev T a r).bind ssD
  | .mm mx a b, r => (ev T a r).bind fun x => (ev T b r).bind fun y => mmD mx x y
  | .enm a, r => (ev T a r).bind fun x => (itemsD x).bind fun xs => .val (.lst (enmL 0 xs))
  | .lc elt tg it cond own, r => (ev T it r).bind fun x => (itemsD x).bind fun xs => if big xs.length then
      (lcGo (fun d => match bindT tg d (wipe r (own.map (·.2))) with
        | some r1 => (if isAnil cond then .val true else (ev T cond r1).bind boolD : Res Bool).bind fun b =>
            if b then (ev T elt r1).bind fun y => .val (some y) else .val none
        | none => .bad) xs).bind fun ys => .val (.lst ys) else .bad

def isFresh (T : Tb) : E → Bool
  | .lst _ => true | .lc .. => true | .bin .Add _ _ => true | .bin .Mult _ _ => true | .sl .. => true | .rev _ => true
  | .b1 .list _ => true | .b1 .sorted _ => true | .lz _ => true | .sset _ => true
  | .call f _ => match T.fns[f]? with | some g => g.fresh | none => false
  | .ife _ a b => isFresh T a && isFresh T b
  | _ => false

/-! statements -/
abbrev Env := List (Option (D × Bool))
def visE (e : Env) : Rho := e.map (Option.map Prod.fst)
def hidE (e : Env) : Rho := e.map fun o => match o with | some (d, false) => some d | _ => none
def frz (e : Env) : List Nat → Env
  | [] => e
  | i :: is => match (frz e is)[i]? with
    | some (some (d, _)) => (frz e is).set i (some (d, false))
    | _ => frz e is
inductive S where
  | done | seq (s r : S)
  | asg (t : Tg) (e : E) (fz : List Nat) (vis own : Bool)
  | par (ts : List (Nat × Bool)) (es : E) (fz : List Nat)
  | setix (x : Nat) (i e : E) | augix (x : Nat) (i e : E)
  | app (x : Nat) (e : E) | ext (x : Nat) (e : E)
  | drop (e : E)
  | ret (e : E) | retO (x : Nat) | retN
  | iff (c : E) (a b : S)
  | forr (t : Tg) (it : E) (fz : List Nat) (body : S)
  | whil (c : E) (body : S)
  | rais (k : Nat) (m : Str)
  | tryE (b : S) (ie il : Nat) (cs : List (List Nat))
inductive Out where
  | nx (e : Env) | rt (d : D) (fr : Bool) | ex (k : Nat) | bad

def noOwn (e : Env) : Bool := e.all fun o => match o with | some (_, true) => false | _ => true
def itemsFlat : D → Bool
  | .lst xs => D.flats xs
  | _ => false
/-- a value at a statement: seen with the owned names (then it must be flat, or new with flat items), or without them -/
def evS (T : Tb) (e : E) (env : Env) (vis : Bool) : Res D :=
  if vis then (ev T e (visE env)).bind fun d => if d.flat || (isFresh T e && itemsFlat d) || noOwn env then .val d else .bad
  else ev T e (hidE env)
def setE (r : Env) : List (Nat × D) → Env
  | [] => r
  | (i, d) :: l => setE (r.set i (some (d, false))) l
def bindE (t : Tg) (d : D) (r : Env) : Option Env := (flatT t d).map (setE r)
def Res.out (r : Res D) (f : D → Out) : Out := match r with
  | .val d => f d
  | .exc k => .ex k
  | .bad => .bad
def whileGo (f : Env → Res Bool) (b : Env → Out) : Nat → Env → Out
  | 0, _ => .bad
  | n + 1, e => match f e with
    | .val true => (match b e with | .nx e' => whileGo f b n e' | o => o)
    | .val false => .nx e
    | .exc k => .ex k
    | .bad => .bad
def forGo (b : D → Env → Out) : List D → Env → Out
  | [], e => .nx e
  | d :: ds, e => match b d e with | .nx e' => forGo b ds e' | o => o
/-- the values of a parallel store: each, where it is to be owned, a new list -/
def parE (T : Tb) (free : Bool) : List (Nat × Bool) → E → List D → Env → Option Env
  | [], .anil, [], env => some env
  | (i, o) :: ts, .acons a es, d :: ds, env =>
    if o then (match d with | .lst xs => if isFresh T a && D.flats xs then parE T free ts es ds (env.set i (some (d, true))) else none | _ => none)
    else if d.flat || free then parE T free ts es ds (env.set i (some (d, false))) else none
  | _, _, _, _ => none

def exec (T : Tb) : S → Env → Out
  | .done, e => .nx e
  | .seq s r, e => match exec T s e with | .nx e' => exec T r e' | o => o
  | .asg t x fz vis own, e => (evS T x (frz e fz) vis).out fun d =>
      if own then (match t, d with | .nm i, .lst _ => if isFresh T x then .nx ((frz e fz).set i (some (d, true))) else .bad | _, _ => .bad)
      else match bindE t d (frz e fz) with | some e' => .nx e' | none => .bad
  | .par ts es fz, e => (ev T es (visE (frz e fz))).out fun y => match y with
      | .lst ds => (match parE T (noOwn (frz e fz) && ts.all fun p => !p.2) ts es ds (frz e fz) with | some e' => .nx e' | none => .bad)
      | _ => .bad
  | .setix x i v, e => match e[x]? with
      | some (some (.lst xs, true)) => (ev T v (visE e)).out fun d => (ev T i (visE e)).out fun j => match j with
          | .int k => (match ixN xs.length k with | some n => if d.flat then .nx (e.set x (some (.lst (xs.set n d), true))) else .bad | none => .bad)
          | _ => .bad
      | _ => .bad
  | .augix x i v, e => match e[x]? with
      | some (some (.lst xs, true)) => (ev T i (visE e)).out fun j => (match j with
          | .int k => (match ixN xs.length k with
            | some n => (match xs[n]? with
              | some (.int p) => (ev T v (visE e)).out fun d => (match d with | .int q => .nx (e.set x (some (.lst (xs.set n (.int (p + q))), true))) | _ => .bad)
              | _ => .bad)
            | none => .bad)
          | _ => .bad)
      | _ => .bad
  | .app x v, e => match e[x]? with
      | some (some (.lst xs, true)) => (ev T v (visE e)).out fun d => if big (xs.length + 1) && d.flat then .nx (e.set x (some (.lst (xs ++ [d]), true))) else .bad
      | _ => .bad
  | .ext x v, e => match e[x]? with
      | some (some (.lst xs, true)) => (ev T v (visE e)).out fun d => (match d with
          | .lst ys => if big (xs.length + ys.length) && D.flats ys then .nx (e.set x (some (.lst (xs ++ ys), true))) else .bad
          | _ => .bad)
      | _ => .bad
  | .drop x, e => (ev T x (visE e)).out fun _ => .nx e
  | .ret x, e => (ev T x (visE e)).out fun d => .rt d (isFresh T x)
  | .retO x, e => match e[x]? with
      | some (some (.lst xs, true)) => .rt (.lst xs) true
      | _ => .bad
  | .retN, _ => .rt .non false
  | .iff c a b, e => (ev T c (visE e)).out fun x => match x with | .bl true => exec T a e | .bl false => exec T b e | _ => .bad
  | .forr t it fz body, e => (ev T it (hidE (frz e fz))).out fun x => match itemsD x with
      | .val xs => forGo (fun d e1 => match bindE t d e1 with | some e2 => exec T body e2 | none => .bad) xs (frz e fz)
      | _ => .bad
  | .whil c body, e => whileGo (fun e1 => (ev T c (visE e1)).bind boolD) (exec T body) 100000 e
  | .rais k _, _ => .ex k
  | .tryE b _ _ cs, e => match exec T b e with
      | .ex k => (match cs.flatten.findIdx? (fun j => j == k) with | some j => .rt (.int j) false | none => .bad)
      | o => o

/-- what a def gives: the parameters' values, the number of names -/
def runDef (T : Tb) (n : Nat) (body : S) (fresh : Bool) (ds : List D) : Res D :=
  match exec T body (ds.map (fun d => some (d, false)) ++ List.replicate (n - ds.length) none) with
  | .rt d fr => if fresh then (match d, fr with | .lst _, true => .val d | .lst _, false => .bad | _, _ => .val d) else .val d
  | .nx _ => .val .non
  | .ex k => .exc k
  | .bad => .bad
end CS

/-! how a value of the machine stands for a datum -/
namespace CS
open PySem L2

abbrev AS := Addr → Prop
open Classical in
noncomputable def hide (H : Hp) (U : AS) : Hp := fun a => if U a then none else H a

theorem hide_in {H : Hp} {U : AS} {a : Addr} (h : U a) : hide H U a = none := by unfold hide; rw [if_pos h]
theorem hide_out {H : Hp} {U : AS} {a : Addr} (h : ¬ U a) : hide H U a = H a := by unfold hide; rw [if_neg h]
theorem hide_some {H : Hp} {U : AS} {a : Addr} {o : HO} (h : hide H U a = some o) : ¬ U a ∧ H a = some o := by
  by_cases u : U a
  · rw [hide_in u] at h; cases h
  · rw [hide_out u] at h; exact ⟨u, h⟩
theorem hide_le (H : Hp) (U : AS) : Same (hide H U) H := fun _ _ h => (hide_some h).2
theorem hide_mono {H H' : Hp} {U : AS} (s : Same H H') : Same (hide H U) (hide H' U) := fun a o h => by
  obtain ⟨u, h⟩ := hide_some h
  rw [hide_out u]; exact s a o h
theorem hide_anti {H : Hp} {U U' : AS} (h : ∀ a, U' a → U a) : Same (hide H U) (hide H U') := fun a o e => by
  obtain ⟨u, e⟩ := hide_some e
  rw [hide_out fun z => u (h a z)]; exact e
theorem Same.new {H : Hp} {p : Addr} {o : HO} (h : H p = none) : Same H (upd H p o) := fun a u e => by
  rw [upd_ne (ne_of_none e h)]; exact e

def Live (U : AS) (H : Hp) : Prop := ∀ a, U a → H a ≠ none
theorem Live.mono {U : AS} {H H' : Hp} (l : Live U H) (s : Same H H') : Live U H' := fun a u => by
  have := l a u
  cases e : H a with
  | none => exact absurd e this
  | some o => rw [s a o e]; simp
theorem Live.not {U : AS} {H : Hp} {p : Addr} (l : Live U H) (h : H p = none) : ¬ U p := fun u => l p u h
theorem hide_new {U : AS} {H : Hp} {p : Addr} {o : HO} (l : Live U H) (h : H p = none) : hide (upd H p o) U p = some o := by
  rw [hide_out (l.not h), upd_same]

/-- the script: a list that is read only -/
def Scr (K : PySem.W.Frag) (F : Hp) (a : Addr) (ns : List Int) : Prop :=
  (∃ o, F a = some (.frz o (.lst (ns.map V.int)))) ∨
    ∃ (o : Obj) (its : Array Value) (n : Nat), K.lookup a = some o ∧ o.cls = .type "list" ∧ o.dict = none ∧ o.data = .seq its n ∧ its.size ≤ sizeLine ∧ Vals (ns.map V.int) its.toList
theorem Scr.sq {K : PySem.W.Frag} {F : Hp} {a : Addr} {ns : List Int} (h : Scr K F a ns) : SqL K F a (ns.map V.int) := by
  rcases h with h | h
  · exact .inl (.inr h)
  · exact .inr h
theorem Scr.mono {K : PySem.W.Frag} {F F' : Hp} {a : Addr} {ns : List Int} (s : Same F F') (h : Scr K F a ns) : Scr K F' a ns := by
  rcases h with ⟨o, h⟩ | h
  · exact .inl ⟨o, s a _ h⟩
  · exact .inr h

mutual
def Rp (K : PySem.W.Frag) (F : Hp) : D → V → Prop
  | .non, v => v = .non
  | .bl b, v => v = .bl b
  | .int i, v => v = .int i
  | .str s, v => v = .str s
  | .tup ds, v => ∃ a vs, v = .ref a ∧ F a = some (.tup vs) ∧ RpAll K F ds vs
  | .lst ds, v => ∃ a vs, v = .ref a ∧ F a = some (.lst vs) ∧ RpAll K F ds vs
  | .scr ns, v => ∃ a, v = .ref a ∧ Scr K F a ns
  | .dct _ _, _ => False
  | .fn _, _ => False
def RpAll (K : PySem.W.Frag) (F : Hp) : List D → List V → Prop
  | [], vs => vs = []
  | d :: ds, vs => ∃ v r, vs = v :: r ∧ Rp K F d v ∧ RpAll K F ds r
end

mutual
theorem Rp.mono {K : PySem.W.Frag} {F F' : Hp} (s : Same F F') : ∀ (d : D) (v : V), Rp K F d v → Rp K F' d v
  | .non, v, h => by simpa only [Rp] using h
  | .bl b, v, h => by simpa only [Rp] using h
  | .int i, v, h => by simpa only [Rp] using h
  | .str x, v, h => by simpa only [Rp] using h
  | .tup ds, v, h => by
    simp only [Rp] at h ⊢
    obtain ⟨a, vs, e, h1, h2⟩ := h
    exact ⟨a, vs, e, s a _ h1, RpAll.mono s ds vs h2⟩
  | .lst ds, v, h => by
    simp only [Rp] at h ⊢
    obtain ⟨a, vs, e, h1, h2⟩ := h
    exact ⟨a, vs, e, s a _ h1, RpAll.mono s ds vs h2⟩
  | .scr ns, v, h => by
    simp only [Rp] at h ⊢
    obtain ⟨a, e, h1⟩ := h
    exact ⟨a, e, h1.mono s⟩
  | .dct _ _, v, h => by simp only [Rp] at h
  | .fn _, v, h => by simp only [Rp] at h
theorem RpAll.mono {K : PySem.W.Frag} {F F' : Hp} (s : Same F F') : ∀ (ds : List D) (vs : List V), RpAll K F ds vs → RpAll K F' ds vs
  | [], vs, h => by simpa only [RpAll] using h
  | d :: ds, vs, h => by
    simp only [RpAll] at h ⊢
    obtain ⟨v, r, e, h1, h2⟩ := h
    exact ⟨v, r, e, Rp.mono s d v h1, RpAll.mono s ds r h2⟩
end

mutual
/-- what holds no list does not lean on lists -/
theorem Rp.hid {K : PySem.W.Frag} {F : Hp} {U : AS} (l : ∀ a, U a → ∃ vs, F a = some (.lst vs)) : ∀ (d : D) (v : V), d.flat = true → Rp K F d v → Rp K (hide F U) d v
  | .non, v, _, h => by simpa only [Rp] using h
  | .bl b, v, _, h => by simpa only [Rp] using h
  | .int i, v, _, h => by simpa only [Rp] using h
  | .str x, v, _, h => by simpa only [Rp] using h
  | .tup ds, v, f, h => by
    simp only [Rp] at h ⊢
    obtain ⟨a, vs, e, h1, h2⟩ := h
    refine ⟨a, vs, e, ?_, RpAll.hid l ds vs (by simpa only [D.flat] using f) h2⟩
    rw [hide_out fun u => by obtain ⟨ws, z⟩ := l a u; rw [h1] at z; cases z]
    exact h1
  | .lst ds, v, f, _ => by simp only [D.flat] at f; cases f
  | .scr ns, v, _, h => by
    simp only [Rp] at h ⊢
    obtain ⟨a, e, h1⟩ := h
    refine ⟨a, e, ?_⟩
    rcases h1 with ⟨o, h1⟩ | h1
    · refine .inl ⟨o, ?_⟩
      rw [hide_out fun u => by obtain ⟨ws, z⟩ := l a u; rw [h1] at z; cases z]
      exact h1
    · exact .inr h1
  | .dct _ _, v, _, h => by simp only [Rp] at h
  | .fn _, v, _, h => by simp only [Rp] at h
theorem RpAll.hid {K : PySem.W.Frag} {F : Hp} {U : AS} (l : ∀ a, U a → ∃ vs, F a = some (.lst vs)) : ∀ (ds : List D) (vs : List V), D.flats ds = true → RpAll K F ds vs → RpAll K (hide F U) ds vs
  | [], vs, _, h => by simpa only [RpAll] using h
  | d :: ds, vs, f, h => by
    simp only [RpAll] at h ⊢
    simp only [D.flats, Bool.and_eq_true] at f
    obtain ⟨v, r, e, h1, h2⟩ := h
    exact ⟨v, r, e, Rp.hid l d v f.1 h1, RpAll.hid l ds r f.2 h2⟩
end

mutual
/-- the library's word for it -/
theorem Rp.dp {K : PySem.W.Frag} {F : Hp} : ∀ (d : D) (v : V), Rp K F d v → Dp K F v d.py
  | .non, v, h => by simp only [Rp] at h; subst h; simp only [D.py]; exact .non
  | .bl b, v, h => by simp only [Rp] at h; subst h; simp only [D.py]; exact .bl b
  | .int i, v, h => by simp only [Rp] at h; subst h; simp only [D.py]; exact .int i
  | .str x, v, h => by simp only [Rp] at h; subst h; simp only [D.py]; exact .str x
  | .tup ds, v, h => by
    simp only [Rp] at h
    obtain ⟨a, vs, rfl, h1, h2⟩ := h
    simp only [D.py]
    exact .tup (.of h1) (RpAll.dp ds vs h2)
  | .lst ds, v, h => by
    simp only [Rp] at h
    obtain ⟨a, vs, rfl, h1, h2⟩ := h
    simp only [D.py]
    exact .lst (.of h1) (RpAll.dp ds vs h2)
  | .scr ns, v, h => by
    simp only [Rp] at h
    obtain ⟨a, rfl, h1⟩ := h
    simp only [D.py]
    refine .lst h1.sq ?_
    clear h1
    induction ns with
    | nil => exact .nil
    | cons n ns ih => exact .cons (.int n) ih
  | .dct _ _, v, h => by simp only [Rp] at h
  | .fn _, v, h => by simp only [Rp] at h
theorem RpAll.dp {K : PySem.W.Frag} {F : Hp} : ∀ (ds : List D) (vs : List V), RpAll K F ds vs → DpAll K F vs (D.pys ds)
  | [], vs, h => by simp only [RpAll] at h; subst h; simp only [D.pys]; exact .nil
  | d :: ds, vs, h => by
    simp only [RpAll] at h
    obtain ⟨v, r, rfl, h1, h2⟩ := h
    simp only [D.pys]
    exact .cons (Rp.dp d v h1) (RpAll.dp ds r h2)
end

theorem RpAll.length {K : PySem.W.Frag} {F : Hp} : ∀ {ds : List D} {vs : List V}, RpAll K F ds vs → ds.length = vs.length
  | [], vs, h => by simp only [RpAll] at h; subst h; rfl
  | d :: ds, vs, h => by
    simp only [RpAll] at h
    obtain ⟨v, r, rfl, h1, h2⟩ := h
    simp [RpAll.length h2]
theorem RpAll.nil {K : PySem.W.Frag} {F : Hp} : RpAll K F [] [] := by simp only [RpAll]
theorem RpAll.cons {K : PySem.W.Frag} {F : Hp} {d : D} {v : V} {ds : List D} {vs : List V} (h : Rp K F d v) (t : RpAll K F ds vs) : RpAll K F (d :: ds) (v :: vs) := by
  simp only [RpAll]; exact ⟨v, vs, rfl, h, t⟩
theorem RpAll.inv_cons {K : PySem.W.Frag} {F : Hp} {d : D} {ds : List D} {vs : List V} (h : RpAll K F (d :: ds) vs) : ∃ v r, vs = v :: r ∧ Rp K F d v ∧ RpAll K F ds r := by
  simp only [RpAll] at h; exact h
theorem RpAll.inv_nil {K : PySem.W.Frag} {F : Hp} {vs : List V} (h : RpAll K F [] vs) : vs = [] := by
  simp only [RpAll] at h; exact h
theorem RpAll.app {K : PySem.W.Frag} {F : Hp} : ∀ {ds es : List D} {vs us : List V}, RpAll K F ds vs → RpAll K F es us → RpAll K F (ds ++ es) (vs ++ us)
  | [], es, vs, us, h, t => by have := h.inv_nil; subst this; exact t
  | d :: ds, es, vs, us, h, t => by
    obtain ⟨v, r, rfl, h1, h2⟩ := h.inv_cons
    exact .cons h1 (RpAll.app h2 t)
theorem RpAll.get {K : PySem.W.Frag} {F : Hp} : ∀ {ds : List D} {vs : List V} {i : Nat} {d : D}, RpAll K F ds vs → ds[i]? = some d → ∃ v, vs[i]? = some v ∧ Rp K F d v
  | [], vs, i, d, h, e => by simp at e
  | x :: ds, vs, 0, d, h, e => by
    obtain ⟨v, r, rfl, h1, h2⟩ := h.inv_cons
    simp at e; subst e
    exact ⟨v, by simp, h1⟩
  | x :: ds, vs, i + 1, d, h, e => by
    obtain ⟨v, r, rfl, h1, h2⟩ := h.inv_cons
    obtain ⟨u, e1, e2⟩ := RpAll.get (i := i) h2 (by simpa using e)
    exact ⟨u, by simpa using e1, e2⟩
theorem RpAll.get' {K : PySem.W.Frag} {F : Hp} : ∀ {ds : List D} {vs : List V} {i : Nat} {v : V}, RpAll K F ds vs → vs[i]? = some v → ∃ d, ds[i]? = some d ∧ Rp K F d v
  | [], vs, i, d, h, e => by have := h.inv_nil; subst this; simp at e
  | x :: ds, vs, 0, d, h, e => by
    obtain ⟨v, r, rfl, h1, h2⟩ := h.inv_cons
    simp at e; subst e
    exact ⟨x, by simp, h1⟩
  | x :: ds, vs, i + 1, d, h, e => by
    obtain ⟨v, r, rfl, h1, h2⟩ := h.inv_cons
    obtain ⟨u, e1, e2⟩ := RpAll.get' (i := i) h2 (by simpa using e)
    exact ⟨u, by simpa using e1, e2⟩
theorem RpAll.set {K : PySem.W.Frag} {F : Hp} {d : D} {v : V} (r : Rp K F d v) : ∀ {ds : List D} {vs : List V} (i : Nat), RpAll K F ds vs → RpAll K F (ds.set i d) (vs.set i v)
  | [], vs, i, h => by have := h.inv_nil; subst this; exact .nil
  | x :: ds, vs, 0, h => by
    obtain ⟨v, r', rfl, h1, h2⟩ := h.inv_cons
    exact .cons r h2
  | x :: ds, vs, i + 1, h => by
    obtain ⟨v, r', rfl, h1, h2⟩ := h.inv_cons
    exact .cons h1 (RpAll.set r i h2)
theorem RpAll.drop {K : PySem.W.Frag} {F : Hp} : ∀ {ds : List D} {vs : List V} (i : Nat), RpAll K F ds vs → RpAll K F (ds.drop i) (vs.drop i)
  | ds, vs, 0, h => by simpa using h
  | [], vs, i + 1, h => by have := h.inv_nil; subst this; simpa using h
  | x :: ds, vs, i + 1, h => by
    obtain ⟨v, r', rfl, h1, h2⟩ := h.inv_cons
    simpa using RpAll.drop i h2
theorem RpAll.take {K : PySem.W.Frag} {F : Hp} : ∀ {ds : List D} {vs : List V} (i : Nat), RpAll K F ds vs → RpAll K F (ds.take i) (vs.take i)
  | ds, vs, 0, h => by simp; exact .nil
  | [], vs, i + 1, h => by have := h.inv_nil; subst this; simpa using h
  | x :: ds, vs, i + 1, h => by
    obtain ⟨v, r', rfl, h1, h2⟩ := h.inv_cons
    simpa using RpAll.cons h1 (RpAll.take i h2)
theorem RpAll.rev {K : PySem.W.Frag} {F : Hp} : ∀ {ds : List D} {vs : List V}, RpAll K F ds vs → RpAll K F ds.reverse vs.reverse
  | [], vs, h => by have := h.inv_nil; subst this; simpa using h
  | x :: ds, vs, h => by
    obtain ⟨v, r', rfl, h1, h2⟩ := h.inv_cons
    simpa using (RpAll.rev h2).app (.cons h1 .nil)
theorem RpAll.rep {K : PySem.W.Frag} {F : Hp} {ds : List D} {vs : List V} (h : RpAll K F ds vs) : ∀ k, RpAll K F (repD ds k) (repD vs k)
  | 0 => by simp [repD]; exact .nil
  | k + 1 => by
    have := RpAll.rep h k
    unfold repD at this ⊢
    simp only [List.replicate_succ, List.flatten_cons]
    exact h.app this
theorem RpAll.ints {K : PySem.W.Frag} {F : Hp} : ∀ {ds : List D} {vs : List V} {ns : List Int}, RpAll K F ds vs → intsD ds = some ns → vs = ns.map V.int
  | [], vs, ns, h, e => by have := h.inv_nil; subst this; simp [intsD] at e; subst e; rfl
  | .int i :: ds, vs, ns, h, e => by
    obtain ⟨v, r, rfl, h1, h2⟩ := h.inv_cons
    simp only [intsD, Option.map_eq_some_iff] at e
    obtain ⟨ms, e, rfl⟩ := e
    simp only [Rp] at h1
    subst h1
    rw [RpAll.ints h2 e]; rfl
  | .non :: _, _, _, _, e | .bl _ :: _, _, _, _, e | .str _ :: _, _, _, _, e | .tup _ :: _, _, _, _, e | .lst _ :: _, _, _, _, e | .scr _ :: _, _, _, _, e | .dct _ _ :: _, _, _, _, e | .fn _ :: _, _, _, _, e => by simp [intsD] at e
theorem RpAll.bools {K : PySem.W.Frag} {F : Hp} : ∀ {ds : List D} {vs : List V} {ns : List Bool}, RpAll K F ds vs → boolsD ds = some ns → vs = ns.map V.bl
  | [], vs, ns, h, e => by have := h.inv_nil; subst this; simp [boolsD] at e; subst e; rfl
  | .bl i :: ds, vs, ns, h, e => by
    obtain ⟨v, r, rfl, h1, h2⟩ := h.inv_cons
    simp only [boolsD, Option.map_eq_some_iff] at e
    obtain ⟨ms, e, rfl⟩ := e
    simp only [Rp] at h1
    subst h1
    rw [RpAll.bools h2 e]; rfl
  | .non :: _, _, _, _, e | .int _ :: _, _, _, _, e | .str _ :: _, _, _, _, e | .tup _ :: _, _, _, _, e | .lst _ :: _, _, _, _, e | .scr _ :: _, _, _, _, e | .dct _ _ :: _, _, _, _, e | .fn _ :: _, _, _, _, e => by simp [boolsD] at e

/-- a new list -/
def Fresh (K : PySem.W.Frag) (U : AS) (H H' : Hp) (xs : List D) (v : V) : Prop :=
  ∃ a vs, v = .ref a ∧ H a = none ∧ H' a = some (.lst vs) ∧ RpAll K (hide H' fun b => U b ∨ b = a) xs vs
theorem Fresh.back {K : PySem.W.Frag} {U : AS} {H H1 H' : Hp} {xs : List D} {v : V} (s : Same H H1) (f : Fresh K U H1 H' xs v) : Fresh K U H H' xs v := by
  obtain ⟨a, vs, e, h1, h2, h3⟩ := f
  exact ⟨a, vs, e, s.free h1, h2, h3⟩

def RhoOk (K : PySem.W.Frag) (U : AS) (σ : St) (H : Hp) (r : Rho) : Prop := r.length = σ.length ∧ ∀ (i : Nat) (d : D), r[i]? = some (some d) → ∃ v, σ[i]? = some (some v) ∧ Rp K (hide H U) d v
theorem RhoOk.mono {K : PySem.W.Frag} {U : AS} {σ : St} {H H' : Hp} {r : Rho} (o : RhoOk K U σ H r) (s : Same H H') : RhoOk K U σ H' r := ⟨o.1, fun i d e => by
  obtain ⟨v, e1, e2⟩ := o.2 i d e
  exact ⟨v, e1, e2.mono (hide_mono s)⟩⟩

/-- what is asked of an expression's end -/
def tR (K : PySem.W.Frag) (cls : Nat → Option Addr) (W : WX) (U : AS) (r : Rho) (fr : Bool) (x : Res D) : TE := fun σ H Q =>
  Live U H ∧ RhoOk K U σ H r ∧ match x with
    | .val d => ∀ v H', Same H H' → Rp K (hide H' U) d v → (fr = true → ∀ xs, d = .lst xs → Fresh K U H H' xs v) → Q v H'
    | .exc k => ∃ C, cls k = some C ∧ ∀ H', Same H H' → W (.ref C) none σ H'
    | .bad => False
def tT (K : PySem.W.Frag) (cls : Nat → Option Addr) (W : WX) (U : AS) (r : Rho) (x : Res D) : TT := fun σ H Q =>
  Live U H ∧ RhoOk K U σ H r ∧ match x with
    | .val d => ∃ b, d = .bl b ∧ ∀ H', Same H H' → Q b H'
    | .exc k => ∃ C, cls k = some C ∧ ∀ H', Same H H' → W (.ref C) none σ H'
    | .bad => False
def tAr (K : PySem.W.Frag) (cls : Nat → Option Addr) (W : WX) (U : AS) (r : Rho) (x : Res D) : TA := fun σ H Q =>
  Live U H ∧ RhoOk K U σ H r ∧ match x with
    | .val d => ∃ ds, d = .lst ds ∧ ∀ vs H', Same H H' → RpAll K (hide H' U) ds vs → Q vs H'
    | .exc k => ∃ C, cls k = some C ∧ ∀ H', Same H H' → W (.ref C) none σ H'
    | .bad => False
/-- a thing that is walked: its items, as long as what it leans on stands -/
def Walks (K : PySem.W.Frag) (J : It) (F : Hp) (xs : List D) : Prop := ∀ (U : AS) (H : Hp), Same F (hide H U) → Live U H →
  (∀ i, i < xs.length → J.go i H ∧ ∀ x H', J.yld i H x H' → Same H H' ∧ ∃ d, xs[i]? = some d ∧ Rp K (hide H' U) d x) ∧ J.stop xs.length H
def tIt (K : PySem.W.Frag) (cls : Nat → Option Addr) (W : WX) (U : AS) (r : Rho) (x : Res D) : TI := fun σ H R =>
  Live U H ∧ RhoOk K U σ H r ∧ match x with
    | .val d => ∃ xs, itemsD d = .val xs ∧ ∀ J H', Same H H' → Walks K J (hide H' U) xs → R J H'
    | .exc k => ∃ C, cls k = some C ∧ ∀ H', Same H H' → W (.ref C) none σ H'
    | .bad => False

section
variable {K : PySem.W.Frag} {cls : Nat → Option Addr} {W : WX} {U : AS} {r : Rho} {σ : St} {H : Hp}
/-- a part first, then the rest -/
theorem tR_bind {fr fa : Bool} {a : Res D} {f : D → Res D} {Q Q' : VK} (h : tR K cls W U r fr (a.bind f) σ H Q)
    (k : ∀ x v H1, Same H H1 → Rp K (hide H1 U) x v → (fa = true → ∀ xs, x = .lst xs → Fresh K U H H1 xs v) → tR K cls W U r fr (f x) σ H1 Q → Q' v H1) : tR K cls W U r fa a σ H Q' := by
  obtain ⟨l, o, h⟩ := h
  cases a with
  | bad => exact ⟨l, o, h⟩
  | exc c => exact ⟨l, o, h⟩
  | val x =>
    refine ⟨l, o, fun v H1 s1 p1 f1 => k x v H1 s1 p1 f1 ⟨l.mono s1, o.mono s1, ?_⟩⟩
    have h' : match f x with
      | .val d => ∀ v H', Same H H' → Rp K (hide H' U) d v → (fr = true → ∀ xs, d = .lst xs → Fresh K U H H' xs v) → Q v H'
      | .exc k => ∃ C, cls k = some C ∧ ∀ H', Same H H' → W (.ref C) none σ H'
      | .bad => False := h
    revert h'
    cases f x with
    | bad => exact fun h => h
    | exc c => exact fun ⟨C, e, h⟩ => ⟨C, e, fun H' s => h H' (s1.trans s)⟩
    | val d => exact fun h v' H' s p q => h v' H' (s1.trans s) p fun e xs z => (q e xs z).back s1
theorem tT_bind {fa : Bool} {a : Res D} {f : D → Res D} {Q : Bool → Hp → Prop} {Q' : VK} (h : tT K cls W U r (a.bind f) σ H Q)
    (k : ∀ x v H1, Same H H1 → Rp K (hide H1 U) x v → (fa = true → ∀ xs, x = .lst xs → Fresh K U H H1 xs v) → tT K cls W U r (f x) σ H1 Q → Q' v H1) : tR K cls W U r fa a σ H Q' := by
  obtain ⟨l, o, h⟩ := h
  cases a with
  | bad => exact ⟨l, o, h⟩
  | exc c => exact ⟨l, o, h⟩
  | val x =>
    refine ⟨l, o, fun v H1 s1 p1 f1 => k x v H1 s1 p1 f1 ⟨l.mono s1, o.mono s1, ?_⟩⟩
    have h' : match f x with
      | .val d => ∃ b, d = .bl b ∧ ∀ H', Same H H' → Q b H'
      | .exc k => ∃ C, cls k = some C ∧ ∀ H', Same H H' → W (.ref C) none σ H'
      | .bad => False := h
    revert h'
    cases f x with
    | bad => exact fun h => h
    | exc c => exact fun ⟨C, e, h⟩ => ⟨C, e, fun H' s => h H' (s1.trans s)⟩
    | val d => exact fun ⟨b, e, h⟩ => ⟨b, e, fun H' s => h H' (s1.trans s)⟩
theorem tA_bind {fa : Bool} {a : Res D} {f : D → Res D} {Q : List V → Hp → Prop} {Q' : VK} (h : tAr K cls W U r (a.bind f) σ H Q)
    (k : ∀ x v H1, Same H H1 → Rp K (hide H1 U) x v → (fa = true → ∀ xs, x = .lst xs → Fresh K U H H1 xs v) → tAr K cls W U r (f x) σ H1 Q → Q' v H1) : tR K cls W U r fa a σ H Q' := by
  obtain ⟨l, o, h⟩ := h
  cases a with
  | bad => exact ⟨l, o, h⟩
  | exc c => exact ⟨l, o, h⟩
  | val x =>
    refine ⟨l, o, fun v H1 s1 p1 f1 => k x v H1 s1 p1 f1 ⟨l.mono s1, o.mono s1, ?_⟩⟩
    have h' : match f x with
      | .val d => ∃ ds, d = .lst ds ∧ ∀ vs H', Same H H' → RpAll K (hide H' U) ds vs → Q vs H'
      | .exc k => ∃ C, cls k = some C ∧ ∀ H', Same H H' → W (.ref C) none σ H'
      | .bad => False := h
    revert h'
    cases f x with
    | bad => exact fun h => h
    | exc c => exact fun ⟨C, e, h⟩ => ⟨C, e, fun H' s => h H' (s1.trans s)⟩
    | val d => exact fun ⟨b, e, h⟩ => ⟨b, e, fun v H' s => h v H' (s1.trans s)⟩
theorem tI_bind {fa : Bool} {a : Res D} {f : D → Res D} {Q : It → Hp → Prop} {Q' : VK} (h : tIt K cls W U r (a.bind f) σ H Q)
    (k : ∀ x v H1, Same H H1 → Rp K (hide H1 U) x v → (fa = true → ∀ xs, x = .lst xs → Fresh K U H H1 xs v) → tIt K cls W U r (f x) σ H1 Q → Q' v H1) : tR K cls W U r fa a σ H Q' := by
  obtain ⟨l, o, h⟩ := h
  cases a with
  | bad => exact ⟨l, o, h⟩
  | exc c => exact ⟨l, o, h⟩
  | val x =>
    refine ⟨l, o, fun v H1 s1 p1 f1 => k x v H1 s1 p1 f1 ⟨l.mono s1, o.mono s1, ?_⟩⟩
    have h' : match f x with
      | .val d => ∃ xs, itemsD d = .val xs ∧ ∀ J H', Same H H' → Walks K J (hide H' U) xs → Q J H'
      | .exc k => ∃ C, cls k = some C ∧ ∀ H', Same H H' → W (.ref C) none σ H'
      | .bad => False := h
    revert h'
    cases f x with
    | bad => exact fun h => h
    | exc c => exact fun ⟨C, e, h⟩ => ⟨C, e, fun H' s => h H' (s1.trans s)⟩
    | val d => exact fun ⟨b, e, h⟩ => ⟨b, e, fun v H' s => h v H' (s1.trans s)⟩
/-- the arguments first, then the rest -/
theorem tR_args {fr : Bool} {a : Res D} {f : List D → Res D} {Q : VK} {Q' : List V → Hp → Prop} (h : tR K cls W U r fr (a.bind fun y => (argsD y).bind f) σ H Q)
    (k : ∀ ds vs H1, Same H H1 → RpAll K (hide H1 U) ds vs → tR K cls W U r fr (f ds) σ H1 Q → Q' vs H1) : tAr K cls W U r a σ H Q' := by
  obtain ⟨l, o, h⟩ := h
  cases a with
  | bad => exact ⟨l, o, h⟩
  | exc c => exact ⟨l, o, h⟩
  | val x =>
    cases x with
    | lst ds =>
      refine ⟨l, o, ds, rfl, fun vs H1 s1 p1 => k ds vs H1 s1 p1 ⟨l.mono s1, o.mono s1, ?_⟩⟩
      have h' : match f ds with
        | .val d => ∀ v H', Same H H' → Rp K (hide H' U) d v → (fr = true → ∀ xs, d = .lst xs → Fresh K U H H' xs v) → Q v H'
        | .exc k => ∃ C, cls k = some C ∧ ∀ H', Same H H' → W (.ref C) none σ H'
        | .bad => False := h
      revert h'
      cases f ds with
      | bad => exact fun h => h
      | exc c => exact fun ⟨C, e, h⟩ => ⟨C, e, fun H' s => h H' (s1.trans s)⟩
      | val d => exact fun h v' H' s p q => h v' H' (s1.trans s) p fun e xs z => (q e xs z).back s1
    | non => exact h.elim
    | bl _ => exact h.elim
    | int _ => exact h.elim
    | str _ => exact h.elim
    | tup _ => exact h.elim
    | scr _ => exact h.elim
    | dct _ _ => exact h.elim
    | fn _ => exact h.elim
theorem tI_args {a : Res D} {f : List D → Res D} {Q : It → Hp → Prop} {Q' : List V → Hp → Prop} (h : tIt K cls W U r (a.bind fun y => (argsD y).bind f) σ H Q)
    (k : ∀ ds vs H1, Same H H1 → RpAll K (hide H1 U) ds vs → tIt K cls W U r (f ds) σ H1 Q → Q' vs H1) : tAr K cls W U r a σ H Q' := by
  obtain ⟨l, o, h⟩ := h
  cases a with
  | bad => exact ⟨l, o, h⟩
  | exc c => exact ⟨l, o, h⟩
  | val x =>
    cases x with
    | lst ds =>
      refine ⟨l, o, ds, rfl, fun vs H1 s1 p1 => k ds vs H1 s1 p1 ⟨l.mono s1, o.mono s1, ?_⟩⟩
      have h' : match f ds with
        | .val d => ∃ xs, itemsD d = .val xs ∧ ∀ J H', Same H H' → Walks K J (hide H' U) xs → Q J H'
        | .exc k => ∃ C, cls k = some C ∧ ∀ H', Same H H' → W (.ref C) none σ H'
        | .bad => False := h
      revert h'
      cases f ds with
      | bad => exact fun h => h
      | exc c => exact fun ⟨C, e, h⟩ => ⟨C, e, fun H' s => h H' (s1.trans s)⟩
      | val d => exact fun ⟨b, e, h⟩ => ⟨b, e, fun v H' s => h v H' (s1.trans s)⟩
    | non => exact h.elim
    | bl _ => exact h.elim
    | int _ => exact h.elim
    | str _ => exact h.elim
    | tup _ => exact h.elim
    | scr _ => exact h.elim
    | dct _ _ => exact h.elim
    | fn _ => exact h.elim
/-- a value is at hand -/
theorem tR_val {fr : Bool} {d : D} {Q : VK} {v : V} (h : tR K cls W U r fr (.val d) σ H Q) (p : Rp K (hide H U) d v) (f : ∀ xs, d ≠ .lst xs) : Q v H :=
  h.2.2 v H (fun _ _ e => e) p fun _ xs z => absurd z (f xs)
/-- .. a new tuple, a new list -/
theorem tR_tup {fr : Bool} {ds : List D} {Q : VK} {vs : List V} (h : tR K cls W U r fr (.val (.tup ds)) σ H Q) (p : RpAll K (hide H U) ds vs) : ∀ a, H a = none → Q (.ref a) (upd H a (.tup vs)) := fun a e => by
  refine h.2.2 (.ref a) _ (Same.new e) ?_ fun _ xs z => by cases z
  simp only [Rp]
  exact ⟨a, vs, rfl, hide_new h.1 e, p.mono (hide_mono (Same.new e))⟩
theorem tR_lst {fr : Bool} {ds : List D} {Q : VK} {vs : List V} (h : tR K cls W U r fr (.val (.lst ds)) σ H Q) (p : RpAll K (hide H U) ds vs) : ∀ a, H a = none → Q (.ref a) (upd H a (.lst vs)) := fun a e => by
  refine h.2.2 (.ref a) _ (Same.new e) ?_ fun _ xs z => ?_
  · simp only [Rp]
    exact ⟨a, vs, rfl, hide_new h.1 e, p.mono (hide_mono (Same.new e))⟩
  · cases z
    refine ⟨a, vs, rfl, e, upd_same, p.mono fun b o q => ?_⟩
    obtain ⟨n, q⟩ := hide_some q
    have hb : b ≠ a := ne_of_none q e
    rw [hide_out (fun z => z.elim n hb), upd_ne hb]
    exact q
end
theorem PE.imp {X : Cx} {e : Expr} {t t' : TE} (p : PE X e t) (h : ∀ σ H Q, t' σ H Q → t σ H Q) : PE X e t' := ⟨fun pins s σ H Q I q => p.run pins s σ H Q I (h σ H Q q)⟩
theorem PT.imp {X : Cx} {e : Expr} {t t' : TT} (p : PT X e t) (h : ∀ σ H Q, t' σ H Q → t σ H Q) : PT X e t' := ⟨fun pins s σ H Q I q => p.run pins s σ H Q I (h σ H Q q)⟩
theorem PW.imp {X : Cx} {e : Expr} {t t' : TT} (p : PW X e t) (h : ∀ σ H Q, t' σ H Q → t σ H Q) : PW X e t' := ⟨fun wh pins s σ H Q I q => p.run wh pins s σ H Q I (h σ H Q q)⟩
theorem PA.imp {X : Cx} {e : List Expr} {t t' : TA} (p : PA X e t) (h : ∀ σ H Q, t' σ H Q → t σ H Q) : PA X e t' := ⟨fun pos pins s σ H Q I q => p.run pos pins s σ H Q I (h σ H Q q)⟩
theorem PI.imp {X : Cx} {tg e : Expr} {t t' : TI} (p : PI X tg e t) (h : ∀ σ H Q, t' σ H Q → t σ H Q) : PI X tg e t' := ⟨fun pins s σ H Q I q => p.run pins s σ H Q I (h σ H Q q)⟩
theorem PS.imp {X : Cx} {e : Stmt} {t t' : TS} (p : PS X e t) (h : ∀ D σ H, t' D σ H → t D σ H) : PS X e t' := ⟨fun pins s σ H Q I q => p.run pins s σ H Q I (h Q σ H q)⟩
theorem PSs.imp {X : Cx} {e : List Stmt} {t t' : TS} (p : PSs X e t) (h : ∀ D σ H, t' D σ H → t D σ H) : PSs X e t' := ⟨fun pins s σ H Q I q => p.run pins s σ H Q I (h Q σ H q)⟩
end CS

/-! zip of two, of three, enumerate: lists and tuples in any mix -/
namespace CS
open PySem L2 PySem.Spec PyProof.Rows

/-- a list (true) or a tuple -/
def SqX (K : PySem.W.Frag) (H : Hp) (k : Bool) (a : Addr) (xs : List V) : Prop := match k with
  | true => SqL K H a xs
  | false => SqT K H a xs
def ItX (h : Heap) (k : Bool) (it a : Addr) (i : Nat) : Prop := match k with
  | true => h.IsListIter it a i
  | false => h.IsTupleIter it a i
theorem ItX.at {h h' : Heap} {k : Bool} {it a : Addr} {i : Nat} (x : ItX h k it a i) (e : ∀ o, h.get? it = some o → h'.get? it = some o) : ItX h' k it a i := by
  cases k with
  | true => exact Heap.IsListIter.at (show h.IsListIter it a i from x) e
  | false => exact Heap.IsTupleIter.at (show h.IsTupleIter it a i from x) e
theorem ItX.obj {h : Heap} {k : Bool} {it a : Addr} {i : Nat} (x : ItX h k it a i) : ∃ o, h.get? it = some o ∧ ∀ v, o.data ≠ .cell v := by
  cases k with
  | true =>
    obtain ⟨o, e, _, d⟩ := (show h.IsListIter it a i from x)
    exact ⟨o, e, fun v q => by rw [d] at q; cases q⟩
  | false =>
    obtain ⟨o, e, _, d⟩ := (show h.IsTupleIter it a i from x)
    exact ⟨o, e, fun v q => by rw [d] at q; cases q⟩
section
variable {X : Cx} {pins : List (Addr × Obj)} {σ : L2.St} {H : Hp} {s : Shared}
theorem sqx_inj (I : Inv X pins σ H s) {k : Bool} {a : Addr} {xs ys : List V} (h : SqX X.K H k a xs) (h' : SqX X.K H k a ys) : xs = ys := by
  cases k with
  | true => exact I.list_inj h h'
  | false => exact I.tuple_inj h h'
theorem draws_of (I : Inv X pins σ H s) (hh : X.A.handled = none) {k : Bool} {a it : Addr} {xs : List V} {i : Nat} (hq : SqX X.K H k a xs) (hit : ItX s.heap k it a i) (hne : a ≠ it) :
    ∃ (its : List Value) (St : Nat → Heap → Prop), Vals xs its ∧ Draws X.prog X.w X.A.in1 it [it, a] its.length (fun i v => its[i]? = some v) St ∧ St i s.heap ∧ ∀ j h, St j h → ItX h k it a j := by
  cases k with
  | true =>
    obtain ⟨its, rv, p, _⟩ := I.list hq
    refine ⟨its, fun i h => h.IsListIter it a i ∧ h.IsList a its.toArray, rv, ?_, ⟨hit, p.isList⟩, fun j h st => st.1⟩
    have := Draws.list (prog := X.prog) (w := X.w) (A := X.A.in1) hh it a hne its.toArray
    simpa using this
  | false =>
    obtain ⟨its, rv, p, _⟩ := I.tuple hq
    refine ⟨its, fun i h => h.IsTupleIter it a i ∧ h.IsTuple a its.toArray, rv, ?_, ⟨hit, p⟩, fun j h st => st.1⟩
    have := Draws.tuple (prog := X.prog) (w := X.w) (A := X.A.in1) hh it a hne its.toArray
    simpa using this
theorem begins_of (I : Inv X pins σ H s) {k : Bool} {a : Addr} {xs : List V} (hq : SqX X.K H k a xs) :
    ∃ (o : Obj) (P : Heap → Prop), Begins (.ref a) o P ∧ P s.heap ∧ (∀ h it, h.get? it = some o → ItX h k it a 0) ∧ a < s.heap.objs.size := by
  cases k with
  | true =>
    obtain ⟨its, rv, p, _⟩ := I.list hq
    exact ⟨_, _, begins_list a its.toArray, p.isList, fun h it e => ⟨_, e, rfl, rfl⟩, p.lt⟩
  | false =>
    obtain ⟨its, rv, p, _⟩ := I.tuple hq
    exact ⟨_, _, begins_tuple a its.toArray, p, fun h it e => ⟨_, e, rfl, rfl⟩, p.lt⟩
end

/-- a turn by the library's walk -/
theorem turn_walks {P : Program} {w : World} {K : PySem.W.Frag} {elts : List Expr} {kk : Nat} {tpos : Pos} {J : It} {fp : List Addr} {z : Addr} {tn : Nat → Heap → Prop}
    (mem : z ∈ fp) (obj : ∀ i h, tn i h → ∀ b ∈ fp, ∃ o, h.get? b = some o ∧ ∀ v, o.data ≠ .cell v) (keep : ∀ i h h', tn i h → (∀ b ∈ fp, ∀ o, h.get? b = some o → h'.get? b = some o) → tn i h')
    (go : ∀ (X : Cx), X.prog = P → X.w = w → X.K = K → X.A.handled = none → ∀ (i : Nat) (pins : List (Addr × Obj)) (s : Shared) (σ : L2.St) (H : Hp), Inv X pins σ H s → tn i s.heap → J.go i H →
      ∃ (fp' wr : List Addr) (n : Nat) (Pt : Nat → Array Value → Prop) (St : Nat → Heap → Prop) (Mid : Nat → Addr → Heap → Prop), WalksT P w X.A z fp' wr n Pt St Mid ∧ (∀ b ∈ wr, b ∈ fp) ∧ St i s.heap ∧ i < n ∧ (∀ h, St (i + 1) h → (∀ b ∈ fp, b ∉ wr → ∀ o, s.heap.get? b = some o → h.get? b = some o) → tn (i + 1) h) ∧
        ∀ vals, Pt i vals → vals.size ≤ sizeLine ∧ ∃ vs, Vals vs vals.toList ∧ ∀ T, H T = none → J.yld i H (.ref T) (upd H T (.tup vs)))
    (stop : ∀ (X : Cx), X.prog = P → X.w = w → X.K = K → X.A.handled = none → ∀ (i : Nat) (pins : List (Addr × Obj)) (s : Shared) (σ : L2.St) (H : Hp), Inv X pins σ H s → tn i s.heap → J.stop i H →
      ∃ (fp' wr : List Addr) (n : Nat) (Pt : Nat → Array Value → Prop) (St : Nat → Heap → Prop) (Mid : Nat → Addr → Heap → Prop), WalksT P w X.A z fp' wr n Pt St Mid ∧ (∀ b ∈ wr, b ∈ fp) ∧ St n s.heap)
    (self : ∀ (A : Around) (i : Nat) (s : Shared) (Q : Value → Shared → Prop) (E : Value → Shared → Prop), tn i s.heap → Q (.ref z) s → wpAny (model P w) A (pyIter (.ref z)) Q E s) :
    Turn P w K (.Tuple elts kk tpos) J fp z tn where
  mem := mem
  obj := obj
  keep := keep
  item := by
    intro X hP hw hK hc i pins s σ H E I hf st hg
    obtain ⟨fp', wr, n, Pt, St, Mid, Wk, hwr, hst, hlt, hnext, hy⟩ := go X hP hw hK (I.ok.hd hc) i pins s σ H I st hg
    subst hP hw hK
    refine Wk.item i s _ E hlt hst fun T vals h' tk hpt hT htup hmid hk => ⟨_, rfl, Wk.go elts kk tpos i T _ _ E hmid fun h'' hst' hk' => ?_⟩
    obtain ⟨hsz, vs, hvs, hyld⟩ := hy vals hpt
    have hTw : T ∉ wr := Wk.apart _ _ _ hmid
    have keepAll : ∀ b o, b ∉ wr → s.heap.get? b = some o → h''.get? b = some o := fun b o hb q => hk' b o hb (hk b o hb q)
    have htup2 : h''.IsTuple T vals := by
      obtain ⟨o, e, r⟩ := htup
      exact ⟨o, hk' T o hTw e, r⟩
    have new : ObjOk X.prog X.w (upd H T (.tup vs)) h'' T (.tup vs) := by
      refine ⟨by rw [hvs.length]; simpa using hsz, vals.toList, hvs, ?_⟩
      have e : vals.toList.toArray = vals := by simp
      rw [e]
      exact htup2
    have I1 := I.turnedNew (t' := tk) (ch := wr) keepAll (fun b hb => hf b (hwr b hb)) hT new
    refine ⟨.ref T, _, I1, rfl, hyld T (I.hok.fresh hT), hnext h'' hst' fun b hb hn o q => keepAll b o hn q, fun b hb => ?_⟩
    obtain ⟨o, e, _⟩ := obj _ _ st b hb
    rw [upd_ne (Nat.ne_of_lt (Nat.lt_of_lt_of_le (Heap.lt_size e) hT))]
    exact (hf b hb).1
  done := by
    intro X hP hw hK hc i pins s σ H E I hf st hg
    obtain ⟨fp', wr, n, Pt, St, Mid, Wk, hwr, hst⟩ := stop X hP hw hK (I.ok.hd hc) i pins s σ H I st hg
    subst hP hw hK
    exact Wk.done s _ E hst fun h' tk hk => ⟨rfl, I.turnedL (t' := tk) (ch := wr) hk fun b hb => hf b (hwr b hb)⟩
  self := self

/-! ### zip of two -/
def Iz2 (K : PySem.W.Frag) (k1 k2 : Bool) (a b : Addr) : It :=
  ⟨fun i H => ∃ (xs ys : List V) (x y : V), SqX K H k1 a xs ∧ SqX K H k2 b ys ∧ xs[i]? = some x ∧ ys[i]? = some y,
    fun i H v H' => ∃ T x y, v = .ref T ∧ H T = none ∧ H' = upd H T (.tup [x, y]) ∧ (∀ xs, SqX K H k1 a xs → xs[i]? = some x) ∧ ∀ ys, SqX K H k2 b ys → ys[i]? = some y,
    fun i H => ∃ xs ys : List V, SqX K H k1 a xs ∧ SqX K H k2 b ys ∧ i = min xs.length ys.length⟩
theorem turn_z2 {P : Program} {w : World} {K : PySem.W.Frag} {elts : List Expr} {kk : Nat} {tpos : Pos} {k1 k2 : Bool} {a b z TI TO i1 i2 : Addr} (S : ZipSep2 z TI TO i1 i2 [i1, a] [i2, b]) (h1 : a ≠ i1) (h2 : b ≠ i2) :
    Turn P w K (.Tuple elts kk tpos) (Iz2 K k1 k2 a b) [z, TI, TO, i1, i2] z
      (fun i h => IsZip h z TI TO .none ∧ IsTupOf2 h TI (.ref i1) (.ref i2) ∧ (∃ x y, IsTupOf2 h TO x y) ∧ ItX h k1 i1 a i ∧ ItX h k2 i2 b i) := by
  refine turn_walks (by simp) (fun i h st c hc => ?_) (fun i h h' st k => ?_) (fun X hP hw hK hh i pins s σ H I st hg => ?_) (fun X hP hw hK hh i pins s σ H I st hg => ?_) fun A i s Q E st h => wpAny_pyIter_zip st.1 h
  · obtain ⟨hz, hTI, ⟨x, y, hTO⟩, d1, d2⟩ := st
    have e' : c = z ∨ c = TI ∨ c = TO ∨ c = i1 ∨ c = i2 := by simpa using hc
    rcases e' with q | q | q | q | q
    · rw [q]; exact ⟨_, hz, fun v q => nomatch q⟩
    · rw [q]; exact ⟨_, hTI, fun v q => nomatch q⟩
    · rw [q]; exact ⟨_, hTO, fun v q => nomatch q⟩
    · rw [q]; exact d1.obj
    · rw [q]; exact d2.obj
  · obtain ⟨hz, hTI, ⟨x, y, hTO⟩, d1, d2⟩ := st
    exact ⟨k z (by simp) _ hz, k TI (by simp) _ hTI, ⟨x, y, k TO (by simp) _ hTO⟩, d1.at fun o q => k i1 (by simp) o q, d2.at fun o q => k i2 (by simp) o q⟩
  · subst hP hw hK
    obtain ⟨hz, hTI, hTO, d1, d2⟩ := st
    obtain ⟨xs, ys, x, y, hqx, hqy, hx, hy⟩ := hg
    obtain ⟨its, St1, rv1, D1, s1, n1⟩ := draws_of I hh hqx d1 h1
    obtain ⟨its2, St2, rv2, D2, s2, n2⟩ := draws_of I hh hqy d2 h2
    obtain ⟨u, hu, ru⟩ := rv1.get hx
    obtain ⟨u2, hu2, ru2⟩ := rv2.get hy
    refine ⟨_, _, _, _, _, _, WalksT.zipD2 S D1 D2, fun b hb => ?_, ⟨hz, hTI, hTO, s1, s2⟩, ?_, fun h st _ => ⟨st.1, st.2.1, st.2.2.1, n1 _ _ st.2.2.2.1, n2 _ _ st.2.2.2.2⟩, fun vals hp => ?_⟩
    · have e' : b = z ∨ b = TO ∨ b = i1 ∨ b = i2 := by simpa using hb
      rcases e' with q | q | q | q <;> simp [q]
    · have l1 := (List.getElem?_eq_some_iff.mp hu).1
      have l2 := (List.getElem?_eq_some_iff.mp hu2).1
      omega
    · obtain ⟨v1, v2, p1, p2, rfl⟩ := hp
      have e1 : v1 = u := Option.some.inj ((show its[i]? = some v1 from p1).symm.trans hu)
      have e2 : v2 = u2 := Option.some.inj ((show its2[i]? = some v2 from p2).symm.trans hu2)
      subst e1 e2
      exact ⟨by show 2 ≤ sizeLine; decide, [x, y], .cons ru (.cons ru2 .nil), fun T hT => ⟨T, x, y, rfl, hT, rfl, fun l hl => by rw [sqx_inj I hl hqx]; exact hx, fun l hl => by rw [sqx_inj I hl hqy]; exact hy⟩⟩
  · subst hP hw hK
    obtain ⟨hz, hTI, hTO, d1, d2⟩ := st
    obtain ⟨xs, ys, hqx, hqy, hi⟩ := hg
    obtain ⟨its, St1, rv1, D1, s1, n1⟩ := draws_of I hh hqx d1 h1
    obtain ⟨its2, St2, rv2, D2, s2, n2⟩ := draws_of I hh hqy d2 h2
    have e : i = min its.length its2.length := by rw [hi, rv1.length, rv2.length]
    refine ⟨_, _, _, _, _, _, WalksT.zipD2 S D1 D2, fun b hb => ?_, hz, hTI, hTO, e ▸ s1, e ▸ s2⟩
    have e' : b = z ∨ b = TO ∨ b = i1 ∨ b = i2 := by simpa using hb
    rcases e' with q | q | q | q <;> simp [q]

/-! ### zip of three -/
def Iz3 (K : PySem.W.Frag) (k1 k2 k3 : Bool) (a b c : Addr) : It :=
  ⟨fun i H => ∃ (xs ys zs : List V) (x y z : V), SqX K H k1 a xs ∧ SqX K H k2 b ys ∧ SqX K H k3 c zs ∧ xs[i]? = some x ∧ ys[i]? = some y ∧ zs[i]? = some z,
    fun i H v H' => ∃ T x y z, v = .ref T ∧ H T = none ∧ H' = upd H T (.tup [x, y, z]) ∧ (∀ xs, SqX K H k1 a xs → xs[i]? = some x) ∧ (∀ ys, SqX K H k2 b ys → ys[i]? = some y) ∧ ∀ zs, SqX K H k3 c zs → zs[i]? = some z,
    fun i H => ∃ xs ys zs : List V, SqX K H k1 a xs ∧ SqX K H k2 b ys ∧ SqX K H k3 c zs ∧ i = min xs.length (min ys.length zs.length)⟩
theorem turn_z3 {P : Program} {w : World} {K : PySem.W.Frag} {elts : List Expr} {kk : Nat} {tpos : Pos} {k1 k2 k3 : Bool} {a b c z TI TO i1 i2 i3 : Addr} (S : ZipSep3 z TI TO i1 i2 i3 [i1, a] [i2, b] [i3, c]) (h1 : a ≠ i1) (h2 : b ≠ i2) (h3 : c ≠ i3) :
    Turn P w K (.Tuple elts kk tpos) (Iz3 K k1 k2 k3 a b c) [z, TI, TO, i1, i2, i3] z
      (fun i h => IsZip h z TI TO .none ∧ IsTupOf3 h TI (.ref i1) (.ref i2) (.ref i3) ∧ (∃ x y z, IsTupOf3 h TO x y z) ∧ ItX h k1 i1 a i ∧ ItX h k2 i2 b i ∧ ItX h k3 i3 c i) := by
  refine turn_walks (by simp) (fun i h st c hc => ?_) (fun i h h' st k => ?_) (fun X hP hw hK hh i pins s σ H I st hg => ?_) (fun X hP hw hK hh i pins s σ H I st hg => ?_) fun A i s Q E st h => wpAny_pyIter_zip st.1 h
  · obtain ⟨hz, hTI, ⟨x, y, u, hTO⟩, d1, d2, d3⟩ := st
    have e' : c = z ∨ c = TI ∨ c = TO ∨ c = i1 ∨ c = i2 ∨ c = i3 := by simpa using hc
    rcases e' with q | q | q | q | q | q
    · rw [q]; exact ⟨_, hz, fun v q => nomatch q⟩
    · rw [q]; exact ⟨_, hTI, fun v q => nomatch q⟩
    · rw [q]; exact ⟨_, hTO, fun v q => nomatch q⟩
    · rw [q]; exact d1.obj
    · rw [q]; exact d2.obj
    · rw [q]; exact d3.obj
  · obtain ⟨hz, hTI, ⟨x, y, u, hTO⟩, d1, d2, d3⟩ := st
    exact ⟨k z (by simp) _ hz, k TI (by simp) _ hTI, ⟨x, y, u, k TO (by simp) _ hTO⟩, d1.at fun o q => k i1 (by simp) o q, d2.at fun o q => k i2 (by simp) o q, d3.at fun o q => k i3 (by simp) o q⟩
  · subst hP hw hK
    obtain ⟨hz, hTI, hTO, d1, d2, d3⟩ := st
    obtain ⟨xs, ys, zs, x, y, zz, hqx, hqy, hqz, hx, hy, hzz⟩ := hg
    obtain ⟨its, St1, rv1, D1, s1, n1⟩ := draws_of I hh hqx d1 h1
    obtain ⟨its2, St2, rv2, D2, s2, n2⟩ := draws_of I hh hqy d2 h2
    obtain ⟨its3, St3, rv3, D3, s3, n3⟩ := draws_of I hh hqz d3 h3
    obtain ⟨u, hu, ru⟩ := rv1.get hx
    obtain ⟨u2, hu2, ru2⟩ := rv2.get hy
    obtain ⟨u3, hu3, ru3⟩ := rv3.get hzz
    refine ⟨_, _, _, _, _, _, WalksT.zipD3 S D1 D2 D3, fun b hb => ?_, ⟨hz, hTI, hTO, s1, s2, s3⟩, ?_, fun h st _ => ⟨st.1, st.2.1, st.2.2.1, n1 _ _ st.2.2.2.1, n2 _ _ st.2.2.2.2.1, n3 _ _ st.2.2.2.2.2⟩, fun vals hp => ?_⟩
    · have e' : b = z ∨ b = TO ∨ b = i1 ∨ b = i2 ∨ b = i3 := by simpa using hb
      rcases e' with q | q | q | q | q <;> simp [q]
    · have l1 := (List.getElem?_eq_some_iff.mp hu).1
      have l2 := (List.getElem?_eq_some_iff.mp hu2).1
      have l3 := (List.getElem?_eq_some_iff.mp hu3).1
      omega
    · obtain ⟨v1, v2, v3, p1, p2, p3, rfl⟩ := hp
      have e1 : v1 = u := Option.some.inj ((show its[i]? = some v1 from p1).symm.trans hu)
      have e2 : v2 = u2 := Option.some.inj ((show its2[i]? = some v2 from p2).symm.trans hu2)
      have e3 : v3 = u3 := Option.some.inj ((show its3[i]? = some v3 from p3).symm.trans hu3)
      subst e1 e2 e3
      exact ⟨by show 3 ≤ sizeLine; decide, [x, y, zz], .cons ru (.cons ru2 (.cons ru3 .nil)), fun T hT => ⟨T, x, y, zz, rfl, hT, rfl, fun l hl => by rw [sqx_inj I hl hqx]; exact hx, fun l hl => by rw [sqx_inj I hl hqy]; exact hy, fun l hl => by rw [sqx_inj I hl hqz]; exact hzz⟩⟩
  · subst hP hw hK
    obtain ⟨hz, hTI, hTO, d1, d2, d3⟩ := st
    obtain ⟨xs, ys, zs, hqx, hqy, hqz, hi⟩ := hg
    obtain ⟨its, St1, rv1, D1, s1, n1⟩ := draws_of I hh hqx d1 h1
    obtain ⟨its2, St2, rv2, D2, s2, n2⟩ := draws_of I hh hqy d2 h2
    obtain ⟨its3, St3, rv3, D3, s3, n3⟩ := draws_of I hh hqz d3 h3
    refine ⟨_, _, _, _, _, _, WalksT.zipD3 S D1 D2 D3, fun b hb => ?_, hz, hTI, hTO, ?_, ?_, ?_⟩
    · have e' : b = z ∨ b = TO ∨ b = i1 ∨ b = i2 ∨ b = i3 := by simpa using hb
      rcases e' with q | q | q | q | q <;> simp [q]
    all_goals
      rw [← rv1.length, ← rv2.length, ← rv3.length]
      first
        | (rw [← hi]; assumption)
        | (rw [show min (min xs.length ys.length) zs.length = i by omega]; assumption)

/-! ### enumerate -/
def Ien (K : PySem.W.Frag) (k : Bool) (a : Addr) : It :=
  ⟨fun i H => ∃ (xs : List V) (x : V), SqX K H k a xs ∧ xs[i]? = some x,
    fun i H v H' => ∃ T x, v = .ref T ∧ H T = none ∧ H' = upd H T (.tup [.int i, x]) ∧ ∀ xs, SqX K H k a xs → xs[i]? = some x,
    fun i H => ∃ xs : List V, SqX K H k a xs ∧ i = xs.length⟩
theorem turn_en {P : Program} {w : World} {K : PySem.W.Frag} {elts : List Expr} {kk : Nat} {tpos : Pos} {k : Bool} {a e it : Addr} (h1 : a ≠ it) (h2 : e ≠ it) (h3 : e ≠ a) :
    Turn P w K (.Tuple elts kk tpos) (Ien K k a) [e, it] e (fun i h => (∃ old, IsEnum h e it (i : Int) old) ∧ ItX h k it a i) := by
  refine turn_walks (by simp) (fun i h st c hc => ?_) (fun i h h' st k => ?_) (fun X hP hw hK hh i pins s σ H I st hg => ?_) (fun X hP hw hK hh i pins s σ H I st hg => ?_) fun A i s Q E st h => let ⟨⟨_, he⟩, _⟩ := st; wpAny_pyIter_enum he h
  · obtain ⟨⟨old, he⟩, d1⟩ := st
    have e' : c = e ∨ c = it := by simpa using hc
    rcases e' with q | q
    · rw [q]; exact ⟨_, he, fun v q => nomatch q⟩
    · rw [q]; exact d1.obj
  · obtain ⟨⟨old, he⟩, d1⟩ := st
    exact ⟨⟨old, k e (by simp) _ he⟩, d1.at fun o q => k it (by simp) o q⟩
  · subst hP hw hK
    obtain ⟨⟨old, he⟩, d1⟩ := st
    obtain ⟨xs, x, hqx, hx⟩ := hg
    obtain ⟨its, St1, rv1, D1, s1, n1⟩ := draws_of I hh hqx d1 h1
    obtain ⟨u, hu, ru⟩ := rv1.get hx
    refine ⟨_, _, _, _, _, _, WalksT.enumFrom 0 D1 e h2 (by simp [h2, h3]) (by simp), fun b hb => hb, ⟨⟨old, by rw [Int.zero_add]; exact he⟩, s1⟩, (List.getElem?_eq_some_iff.mp hu).1, fun h st _ => ?_, fun vals hp => ?_⟩
    · obtain ⟨⟨o2, h4⟩, h5⟩ := st
      rw [Int.zero_add] at h4
      exact ⟨⟨o2, h4⟩, n1 _ _ h5⟩
    · obtain ⟨t, v, p1, rfl⟩ := hp
      have e1 : v = u := Option.some.inj ((show its[i]? = some v from p1).symm.trans hu)
      subst e1
      exact ⟨by show 2 ≤ sizeLine; decide, [.int (i : Nat), x], .cons ⟨t, by rw [Int.zero_add]⟩ (.cons ru .nil), fun T hT => ⟨T, x, rfl, hT, rfl, fun l hl => by rw [sqx_inj I hl hqx]; exact hx⟩⟩
  · subst hP hw hK
    obtain ⟨⟨old, he⟩, d1⟩ := st
    obtain ⟨xs, hqx, hi⟩ := hg
    obtain ⟨its, St1, rv1, D1, s1, n1⟩ := draws_of I hh hqx d1 h1
    have e' : i = its.length := by rw [hi, rv1.length]
    exact ⟨_, _, _, _, _, _, WalksT.enumFrom 0 D1 e h2 (by simp [h2, h3]) (by simp), fun b hb => hb, ⟨old, by rw [Int.zero_add]; exact e' ▸ he⟩, e' ▸ s1⟩

/-! ### how they begin -/
set_option maxHeartbeats 1000000 in
theorem meets_enumerate_newB1 {v : Value} {o : Obj} {H : Heap → Prop} (B : Begins v o H) :
    Meets (Builtin.«enumerate.__new__» ⟨[.type "enumerate", v], []⟩) (fun _ R s => H s.heap ∧
      R (.ok (.ret (.ref (s.heap.push o).objs.size))) { s with heap := (s.heap.push o).push { cls := .type "enumerate", data := .fields #[.none, .bool false, .ref s.heap.objs.size, rawInt 0, .none, .none] } }) :=
  .of_wp fun prog w A R s h => by
    obtain ⟨hp, g, d, tk, os⟩ := s; obtain ⟨h1, h⟩ := h
    have hsub := sub_enumerate
    wp_walk using B.iter
    refine wpAny_stack_any fun st => wpAny_pure ?_
    split
    · rename_i c _ _ _ _ _
      cases (c == Value.type "enumerate")
      · wp_walk using B.iter _ _ _ _ _ _ h1
        exact ⟨_, rfl, h⟩
      · wp_walk using B.iter _ _ _ _ _ _ h1
        exact ⟨_, rfl, h⟩
    · wp_walk using B.iter _ _ _ _ _ _ h1
      exact ⟨_, rfl, h⟩
end CS

/-! what is walked, by the own judgement -/
namespace CS
open PySem L2 PySem.Spec PyProof.Rows

theorem call_enum1 {prog : Program} {w : World} {A : Around} {E : Value → Shared → Prop} {s : Shared} {v : Value} {o : Obj} {H : Heap → Prop} {Q : Value → Shared → Prop} (B : Begins v o H) (h1 : H s.heap)
    (h : ∀ h', IsEnum h' (s.heap.objs.size + 1) s.heap.objs.size 0 .none → h'.get? s.heap.objs.size = some o → h'.objs.size = s.heap.objs.size + 2 →
      (∀ b o, s.heap.get? b = some o → h'.get? b = some o) → Q (.ref (s.heap.objs.size + 1)) { s with heap := h' }) :
    wpAny (model prog w) A (call (.type "enumerate") [v]) Q E s := by
  refine callType_new F.called_enumerate (by decide) (F.typeCall_enumerate_1 _) (F.newCall_enumerate_1 _) (fun obj => F.args_object_init_2 obj _) F.entry_enumerate_new
    (meets_enumerate_newB1 B) ⟨h1, ?_⟩
  have hz : (s.heap.push o).objs.size = s.heap.objs.size + 1 := Heap.size_push ..
  show _ ∧ _
  rw [hz]
  have he : IsEnum ((s.heap.push o).push { cls := .type "enumerate", data := .fields #[.none, .bool false, .ref s.heap.objs.size, rawInt 0, .none, .none] }) (s.heap.objs.size + 1) s.heap.objs.size 0 .none := by
    have := Heap.get?_push_size (s.heap.push o) (o := { cls := .type "enumerate", data := .fields #[.none, .bool false, .ref s.heap.objs.size, rawInt 0, .none, .none] }) rfl
    rw [hz] at this; exact this
  refine ⟨⟨_, he, rfl⟩, h _ he (Heap.get?_push_of_some _ (Heap.get?_push_size _ B.free)) (by rw [Heap.size_push, hz]) fun b o x => Heap.get?_push_of_some _ (Heap.get?_push_of_some _ x)⟩

def iZ (K : PySem.W.Frag) (ta : TA) : TI := fun σ H R => ta σ H fun vs H1 =>
  (∃ a b k1 k2 xs ys, vs = [.ref a, .ref b] ∧ SqX K H1 k1 a xs ∧ SqX K H1 k2 b ys ∧ R (Iz2 K k1 k2 a b) H1) ∨
  (∃ a b c k1 k2 k3 xs ys zs, vs = [.ref a, .ref b, .ref c] ∧ SqX K H1 k1 a xs ∧ SqX K H1 k2 b ys ∧ SqX K H1 k3 c zs ∧ R (Iz3 K k1 k2 k3 a b c) H1)
section
variable {X : Cx}
theorem fresh_in {pins : List (Addr × Obj)} {σ : L2.St} {H : Hp} {s : Shared} (I : Inv X pins σ H s) {l : List Addr} (h : ∀ c ∈ l, s.heap.objs.size ≤ c) : ∀ c ∈ l, FpOk X pins H c := fun c hc => I.fpOk (h c hc) (I.hok.fresh (h c hc))
theorem pi_z {e : Expr} {es : List Expr} {ta : TA} {p pos tpos : Pos} {elts : List Expr} {kk : Nat} (hg : Gl X "zip") (hm : X.mg "zip" = none) (ha : PA X (e :: es) ta)
    (hs : starEach (e :: es) X.env = (false, eval e X.env) :: starEach es X.env) (hpl : (backTo pos (starEach es X.env)).any (·.1) = false) :
    PI X (.Tuple elts kk tpos) (.Call (.Name "zip" p) (e :: es) [] pos) (iZ X.K ta) := by
  refine ⟨fun pins s σ H R I h => ?_⟩
  refine Call_ (ld_blt I hg hm PyProof.Rows.boot_zip (PyProof.Rows.callWith_type1 (thn (ha.run pos pins s σ H _ I h) fun us s1 ⟨vs, H1, I1, r1, q1⟩ => ?_) hs hpl))
  rcases q1 with ⟨a, b, k1, k2, xs, ys, ex, hqx, hqy, q⟩ | ⟨a, b, c, k1, k2, k3, xs, ys, zs, ex, hqx, hqy, hqz, q⟩
  · subst ex
    cases r1 with
    | cons r rr =>
      cases rr with
      | cons r' rr =>
        cases rr
        cases r
        cases r'
        obtain ⟨o1, P1, B1, p1, n1, l1⟩ := begins_of I1 hqx
        obtain ⟨o2, P2, B2, p2, n2, l2⟩ := begins_of I1 hqy
        refine zip_begins2 B1 B2 p1 p2 fun h' hz hTI hTO g1 g2 hsz hk => wpAny_pyIter_zip hz ?_
        have I2 : Inv X pins σ H1 { s1 with heap := h' } := I1.kept (t' := s1.toks) hk
        have S := zip_sep2 (N := s1.heap.objs.size) (fp1 := [a]) (fp2 := [b]) (by simpa using l1) (by simpa using l2)
        refine ⟨s1.heap.objs.size + 4, [s1.heap.objs.size + 4, s1.heap.objs.size + 2, s1.heap.objs.size + 3, s1.heap.objs.size, s1.heap.objs.size + 1], _, _, H1, rfl, I2, turn_z2 (k1 := k1) (k2 := k2) S (Nat.ne_of_lt l1) (Nat.ne_of_lt (Nat.lt_succ_of_lt l2)), ⟨hz, hTI, ⟨_, _, hTO⟩, n1 _ _ g1, n2 _ _ g2⟩, ?_, q⟩
        refine fresh_in I1 fun c hc => ?_
        have e' : c = s1.heap.objs.size + 4 ∨ c = s1.heap.objs.size + 2 ∨ c = s1.heap.objs.size + 3 ∨ c = s1.heap.objs.size ∨ c = s1.heap.objs.size + 1 := by simpa using hc
        rcases e' with z | z | z | z | z <;> (rw [z]; first | exact Nat.le_add_right _ _ | exact Nat.le_refl _)
  · subst ex
    cases r1 with
    | cons r rr =>
      cases rr with
      | cons r' rr =>
        cases rr with
        | cons r'' rr =>
          cases rr
          cases r
          cases r'
          cases r''
          obtain ⟨o1, P1, B1, p1, n1, l1⟩ := begins_of I1 hqx
          obtain ⟨o2, P2, B2, p2, n2, l2⟩ := begins_of I1 hqy
          obtain ⟨o3, P3, B3, p3, n3, l3⟩ := begins_of I1 hqz
          refine zip_begins3 B1 B2 B3 p1 p2 p3 fun h' hz hTI hTO g1 g2 g3 hsz hk => wpAny_pyIter_zip hz ?_
          have I2 : Inv X pins σ H1 { s1 with heap := h' } := I1.kept (t' := s1.toks) hk
          have S := zip_sep3 (N := s1.heap.objs.size) (fp1 := [a]) (fp2 := [b]) (fp3 := [c]) (by simpa using l1) (by simpa using l2) (by simpa using l3)
          refine ⟨s1.heap.objs.size + 5, [s1.heap.objs.size + 5, s1.heap.objs.size + 3, s1.heap.objs.size + 4, s1.heap.objs.size, s1.heap.objs.size + 1, s1.heap.objs.size + 2], _, _, H1, rfl, I2,
            turn_z3 (k1 := k1) (k2 := k2) (k3 := k3) S (Nat.ne_of_lt l1) (Nat.ne_of_lt (Nat.lt_succ_of_lt l2)) (Nat.ne_of_lt (Nat.lt_succ_of_lt (Nat.lt_succ_of_lt l3))), ⟨hz, hTI, ⟨_, _, _, hTO⟩, n1 _ _ g1, n2 _ _ g2, n3 _ _ g3⟩, ?_, q⟩
          refine fresh_in I1 fun c hc => ?_
          have e' : c = s1.heap.objs.size + 5 ∨ c = s1.heap.objs.size + 3 ∨ c = s1.heap.objs.size + 4 ∨ c = s1.heap.objs.size ∨ c = s1.heap.objs.size + 1 ∨ c = s1.heap.objs.size + 2 := by simpa using hc
          rcases e' with z | z | z | z | z | z <;> (rw [z]; first | exact Nat.le_add_right _ _ | exact Nat.le_refl _)

def iEn (K : PySem.W.Frag) (ta : TA) : TI := fun σ H R => ta σ H fun vs H1 => ∃ a k xs, vs = [.ref a] ∧ SqX K H1 k a xs ∧ R (Ien K k a) H1
theorem pi_en {e : Expr} {ta : TA} {p pos tpos : Pos} {elts : List Expr} {kk : Nat} (hg : Gl X "enumerate") (hm : X.mg "enumerate" = none) (ha : PA X [e] ta) (hs : starEach [e] X.env = [(false, eval e X.env)]) :
    PI X (.Tuple elts kk tpos) (.Call (.Name "enumerate" p) [e] [] pos) (iEn X.K ta) := by
  refine ⟨fun pins s σ H R I h => ?_⟩
  refine Call_ (ld_blt I hg hm boot_enumerate (PyProof.Rows.callWith_type1 (thn (ha.run pos pins s σ H _ I h) fun us s1 ⟨vs, H1, I1, r1, q1⟩ => ?_) hs rfl))
  obtain ⟨a, k, xs, ex, hq, q⟩ := q1
  subst ex
  cases r1 with
  | cons r rr =>
    cases rr
    cases r
    obtain ⟨o1, P1, B1, p1, n1, l1⟩ := begins_of I1 hq
    refine call_enum1 B1 p1 fun h' he g1 hsz hk => wpAny_pyIter_enum he ?_
    have I2 : Inv X pins σ H1 { s1 with heap := h' } := I1.kept (t' := s1.toks) hk
    refine ⟨s1.heap.objs.size + 1, [s1.heap.objs.size + 1, s1.heap.objs.size], _, _, H1, rfl, I2, turn_en (k := k) (Nat.ne_of_lt l1) (Nat.succ_ne_self _) (Nat.ne_of_gt (Nat.lt_succ_of_lt l1)), ⟨⟨.none, he⟩, n1 _ _ g1⟩, ?_, q⟩
    refine fresh_in I1 fun c hc => ?_
    have e' : c = s1.heap.objs.size + 1 ∨ c = s1.heap.objs.size := by simpa using hc
    rcases e' with z | z <;> (rw [z]; first | exact Nat.le_add_right _ _ | exact Nat.le_refl _)

/-- a list or a tuple -/
def Isq (K : PySem.W.Frag) (k : Bool) (a : Addr) : It := match k with
  | true => Itl K a
  | false => Itt K a
def iSq (K : PySem.W.Frag) (tl : TE) : TI := fun σ H R => tl σ H fun x H1 => ∃ a k xs, x = .ref a ∧ SqX K H1 k a xs ∧ R (Isq K k a) H1
theorem pi_sq {tg l : Expr} {tl : TE} (hl : PE X l tl) : PI X tg l (iSq X.K tl) := by
  refine ⟨fun pins s σ H R I h => ?_⟩
  refine thn (hl.run pins s σ H _ I h) fun v s1 ⟨x, H1, I1, r1, q1⟩ => ?_
  obtain ⟨a, k, xs, e, hq, q⟩ := q1
  subst e
  cases r1
  have fin : ∀ b ∈ [s1.heap.objs.size], FpOk X pins H1 b := fun b hb => by
    have e : b = s1.heap.objs.size := by simpa using hb
    subst e
    exact I1.fpOk (Nat.le_refl _) (I1.hok.fresh (Nat.le_refl _))
  cases k with
  | true =>
    obtain ⟨its, rv, p, hz⟩ := I1.list hq
    exact wpAny_pyIter_list p.isList ⟨s1.heap.objs.size, [s1.heap.objs.size], _, _, H1, rfl, I1.kept (t' := s1.toks) fun b o e => Heap.get?_push_of_some _ e, turn_list a _, ⟨_, Heap.get?_push_size _ rfl, rfl, rfl⟩, fin, q⟩
  | false =>
    obtain ⟨its, rv, p, hz⟩ := I1.tuple hq
    exact wpAny_pyIter_tuple (show s1.heap.IsTuple a its.toArray from p) ⟨s1.heap.objs.size, [s1.heap.objs.size], _, _, H1, rfl, I1.kept (t' := s1.toks) fun b o e => Heap.get?_push_of_some _ e, turn_tuple a _, ⟨_, Heap.get?_push_size _ rfl, rfl, rfl⟩, fin, q⟩
end

/-! ### they walk their items -/
/-- a datum that is a list or a tuple, at a -/
theorem items_rp {K : PySem.W.Frag} {F : Hp} {d : D} {xs : List D} {v : V} (e : itemsD d = .val xs) (p : Rp K F d v) : ∃ a k vs, v = .ref a ∧ SqX K F k a vs ∧ RpAll K F xs vs ∧ (match k with | true => F a = some (.lst vs) | false => F a = some (.tup vs)) := by
  cases d with
  | lst ds =>
    simp only [itemsD, Res.val.injEq] at e
    subst e
    simp only [Rp] at p
    obtain ⟨a, vs, rfl, h1, h2⟩ := p
    exact ⟨a, true, vs, rfl, SqL.of h1, h2, h1⟩
  | tup ds =>
    simp only [itemsD, Res.val.injEq] at e
    subst e
    simp only [Rp] at p
    obtain ⟨a, vs, rfl, h1, h2⟩ := p
    exact ⟨a, false, vs, rfl, SqT.of h1, h2, h1⟩
  | _ => simp [itemsD] at e
theorem SqX.mono {K : PySem.W.Frag} {H H' : Hp} {k : Bool} {a : Addr} {vs : List V} (s : Same H H') (h : match k with | true => H a = some (.lst vs) | false => H a = some (.tup vs)) : SqX K H' k a vs := by
  cases k with
  | true => exact SqL.of (s _ _ h)
  | false => exact SqT.of (s _ _ h)

theorem zipL_get : ∀ (xs ys : List D) (i : Nat) (x y : D), xs[i]? = some x → ys[i]? = some y → (zipL xs ys)[i]? = some (.tup [x, y])
  | [], _, i, x, y, h, _ => by simp at h
  | _ :: _, [], i, x, y, _, h => by simp at h
  | a :: xs, b :: ys, 0, x, y, h, h' => by simp at h h'; subst h h'; simp [zipL]
  | a :: xs, b :: ys, i + 1, x, y, h, h' => by
    simp only [zipL, List.getElem?_cons_succ] at h h' ⊢
    exact zipL_get xs ys i x y h h'
theorem zipL_length : ∀ (xs ys : List D), (zipL xs ys).length = min xs.length ys.length
  | [], _ => by simp [zipL]
  | _ :: _, [] => by simp [zipL]
  | a :: xs, b :: ys => by simp only [zipL, List.length_cons, zipL_length xs ys]; omega
theorem zipL3_get : ∀ (xs ys zs : List D) (i : Nat) (x y z : D), xs[i]? = some x → ys[i]? = some y → zs[i]? = some z → (zipL3 xs ys zs)[i]? = some (.tup [x, y, z])
  | [], _, _, i, x, y, z, h, _, _ => by simp at h
  | _ :: _, [], _, i, x, y, z, _, h, _ => by simp at h
  | _ :: _, _ :: _, [], i, x, y, z, _, _, h => by simp at h
  | a :: xs, b :: ys, c :: zs, 0, x, y, z, h, h', h'' => by simp at h h' h''; subst h h' h''; simp [zipL3]
  | a :: xs, b :: ys, c :: zs, i + 1, x, y, z, h, h', h'' => by
    simp only [zipL3, List.getElem?_cons_succ] at h h' h'' ⊢
    exact zipL3_get xs ys zs i x y z h h' h''
theorem zipL3_length : ∀ (xs ys zs : List D), (zipL3 xs ys zs).length = min xs.length (min ys.length zs.length)
  | [], _, _ => by simp [zipL3]
  | _ :: _, [], _ => by simp [zipL3]
  | _ :: _, _ :: _, [] => by simp [zipL3]
  | a :: xs, b :: ys, c :: zs => by simp only [zipL3, List.length_cons, zipL3_length xs ys zs]; omega
theorem enmL_get : ∀ (xs : List D) (k : Int) (i : Nat) (x : D), xs[i]? = some x → (enmL k xs)[i]? = some (.tup [.int (k + i), x])
  | [], k, i, x, h => by simp at h
  | a :: xs, k, 0, x, h => by simp at h; subst h; simp [enmL]
  | a :: xs, k, i + 1, x, h => by
    simp only [enmL, List.getElem?_cons_succ] at h ⊢
    rw [enmL_get xs (k + 1) i x h]
    have : k + 1 + (i : Int) = k + ((i + 1 : Nat) : Int) := by omega
    rw [this]
theorem enmL_length : ∀ (xs : List D) (k : Int), (enmL k xs).length = xs.length
  | [], k => by simp [enmL]
  | a :: xs, k => by simp [enmL, enmL_length xs (k + 1)]
theorem rngL_get : ∀ (n : Nat) (k : Int) (i : Nat), i < n → (rngL k n)[i]? = some (.int (k + i))
  | 0, k, i, h => by omega
  | n + 1, k, 0, h => by simp [rngL]
  | n + 1, k, i + 1, h => by
    simp only [rngL, List.getElem?_cons_succ]
    rw [rngL_get n (k + 1) i (by omega)]
    have : k + 1 + (i : Int) = k + ((i + 1 : Nat) : Int) := by omega
    rw [this]
theorem rngL_length : ∀ (n : Nat) (k : Int), (rngL k n).length = n
  | 0, k => rfl
  | n + 1, k => by simp [rngL, rngL_length n (k + 1)]

section
variable {K : PySem.W.Frag} {U : AS} {F : Hp}
theorem walks_sq {d : D} {xs : List D} {a : Addr} {k : Bool} {vs : List V} (p : RpAll K F xs vs) (h : match k with | true => F a = some (.lst vs) | false => F a = some (.tup vs)) : Walks K (Isq K k a) F xs := by
  intro U H1 s1 l1
  have q : SqX K H1 k a vs := SqX.mono (s1.trans (hide_le H1 U)) h
  have hl := p.length
  refine ⟨fun i hi => ?_, ?_⟩
  · obtain ⟨v, hv, rv⟩ := p.get (List.getElem?_eq_getElem hi)
    cases k with
    | true =>
      refine ⟨⟨vs, v, q, hv⟩, fun x H' y => ?_⟩
      obtain ⟨e, y⟩ := y
      subst e
      have := y vs q
      rw [hv] at this
      cases this
      exact ⟨Same.refl _, _, List.getElem?_eq_getElem hi, rv.mono s1⟩
    | false =>
      refine ⟨⟨vs, v, q, hv⟩, fun x H' y => ?_⟩
      obtain ⟨e, y⟩ := y
      subst e
      have := y vs q
      rw [hv] at this
      cases this
      exact ⟨Same.refl _, _, List.getElem?_eq_getElem hi, rv.mono s1⟩
  · cases k with
    | true => exact ⟨vs, q, by omega⟩
    | false => exact ⟨vs, q, by omega⟩
theorem walks_rng (lo : Int) (n : Nat) : Walks K (Itr lo n) F (rngL lo n) := by
  intro U H1 s1 l1
  rw [rngL_length]
  refine ⟨fun i hi => ⟨hi, fun x H' y => ?_⟩, Nat.le_refl _⟩
  obtain ⟨e, y⟩ := y
  subst e y
  exact ⟨Same.refl _, _, rngL_get n lo i hi, by simp only [Rp]⟩
theorem new_tup {H1 : Hp} {T : Addr} {ds : List D} {vs : List V} (l : Live U H1) (hT : H1 T = none) (p : RpAll K (hide H1 U) ds vs) : Rp K (hide (upd H1 T (.tup vs)) U) (.tup ds) (.ref T) := by
  simp only [Rp]
  exact ⟨T, vs, rfl, hide_new l hT, p.mono (hide_mono (Same.new hT))⟩
theorem walks_z2 {xs ys : List D} {a b : Addr} {k1 k2 : Bool} {vs us : List V} (p1 : RpAll K F xs vs) (h1 : match k1 with | true => F a = some (.lst vs) | false => F a = some (.tup vs))
    (p2 : RpAll K F ys us) (h2 : match k2 with | true => F b = some (.lst us) | false => F b = some (.tup us)) : Walks K (Iz2 K k1 k2 a b) F (zipL xs ys) := by
  intro U H1 s1 l1
  have q1 : SqX K H1 k1 a vs := SqX.mono (s1.trans (hide_le H1 U)) h1
  have q2 : SqX K H1 k2 b us := SqX.mono (s1.trans (hide_le H1 U)) h2
  have e1 := p1.length
  have e2 := p2.length
  rw [zipL_length]
  refine ⟨fun i hi => ?_, vs, us, q1, q2, by omega⟩
  have hx : i < xs.length := by omega
  have hy : i < ys.length := by omega
  obtain ⟨v, hv, rv⟩ := p1.get (List.getElem?_eq_getElem hx)
  obtain ⟨u, hu, ru⟩ := p2.get (List.getElem?_eq_getElem hy)
  refine ⟨⟨vs, us, v, u, q1, q2, hv, hu⟩, fun z H' y => ?_⟩
  obtain ⟨T, x', y', rfl, hT, rfl, f1, f2⟩ := y
  have z1 := f1 vs q1
  have z2 := f2 us q2
  rw [hv] at z1
  rw [hu] at z2
  cases z1
  cases z2
  exact ⟨Same.new hT, _, zipL_get _ _ _ _ _ (List.getElem?_eq_getElem hx) (List.getElem?_eq_getElem hy), new_tup l1 hT (.cons (rv.mono s1) (.cons (ru.mono s1) .nil))⟩
theorem walks_z3 {xs ys zs : List D} {a b c : Addr} {k1 k2 k3 : Bool} {vs us ws : List V} (p1 : RpAll K F xs vs) (h1 : match k1 with | true => F a = some (.lst vs) | false => F a = some (.tup vs))
    (p2 : RpAll K F ys us) (h2 : match k2 with | true => F b = some (.lst us) | false => F b = some (.tup us))
    (p3 : RpAll K F zs ws) (h3 : match k3 with | true => F c = some (.lst ws) | false => F c = some (.tup ws)) : Walks K (Iz3 K k1 k2 k3 a b c) F (zipL3 xs ys zs) := by
  intro U H1 s1 l1
  have q1 : SqX K H1 k1 a vs := SqX.mono (s1.trans (hide_le H1 U)) h1
  have q2 : SqX K H1 k2 b us := SqX.mono (s1.trans (hide_le H1 U)) h2
  have q3 : SqX K H1 k3 c ws := SqX.mono (s1.trans (hide_le H1 U)) h3
  have e1 := p1.length
  have e2 := p2.length
  have e3 := p3.length
  rw [zipL3_length]
  refine ⟨fun i hi => ?_, vs, us, ws, q1, q2, q3, by omega⟩
  have hx : i < xs.length := by omega
  have hy : i < ys.length := by omega
  have hz : i < zs.length := by omega
  obtain ⟨v, hv, rv⟩ := p1.get (List.getElem?_eq_getElem hx)
  obtain ⟨u, hu, ru⟩ := p2.get (List.getElem?_eq_getElem hy)
  obtain ⟨w, hw, rw'⟩ := p3.get (List.getElem?_eq_getElem hz)
  refine ⟨⟨vs, us, ws, v, u, w, q1, q2, q3, hv, hu, hw⟩, fun z H' y => ?_⟩
  obtain ⟨T, x', y', z', rfl, hT, rfl, f1, f2, f3⟩ := y
  have z1 := f1 vs q1
  have z2 := f2 us q2
  have z3 := f3 ws q3
  rw [hv] at z1
  rw [hu] at z2
  rw [hw] at z3
  cases z1
  cases z2
  cases z3
  exact ⟨Same.new hT, _, zipL3_get _ _ _ _ _ _ _ (List.getElem?_eq_getElem hx) (List.getElem?_eq_getElem hy) (List.getElem?_eq_getElem hz), new_tup l1 hT (.cons (rv.mono s1) (.cons (ru.mono s1) (.cons (rw'.mono s1) .nil)))⟩
theorem walks_en {xs : List D} {a : Addr} {k : Bool} {vs : List V} (p : RpAll K F xs vs) (h : match k with | true => F a = some (.lst vs) | false => F a = some (.tup vs)) : Walks K (Ien K k a) F (enmL 0 xs) := by
  intro U H1 s1 l1
  have q : SqX K H1 k a vs := SqX.mono (s1.trans (hide_le H1 U)) h
  have hl := p.length
  rw [enmL_length]
  refine ⟨fun i hi => ?_, vs, q, hl⟩
  obtain ⟨v, hv, rv⟩ := p.get (List.getElem?_eq_getElem hi)
  refine ⟨⟨vs, v, q, hv⟩, fun x H' y => ?_⟩
  obtain ⟨T, x', rfl, hT, rfl, f1⟩ := y
  have z1 := f1 vs q
  rw [hv] at z1
  cases z1
  have e : (0 : Int) + (i : Int) = (i : Int) := by omega
  refine ⟨Same.new hT, _, enmL_get _ 0 _ _ (List.getElem?_eq_getElem hi), new_tup l1 hT (.cons (by simp only [Rp]; rw [e]) (.cons (rv.mono s1) .nil))⟩
end
end CS

/-! the own text against the row's text -/
namespace CS
open PySem L2

structure Sx where
  N : List Str
  sc : Scope
  fnc : Str → Bool

def visN (sc : Scope) (x : Str) : Bool := match sc.names.lookup x with
  | some .local => true | some .cell => true | some .free => true | _ => false
def glN (sc : Scope) (x : Str) : Bool := match sc.names.lookup x with
  | some .globalImplicit => true | _ => false
def plainN (x : Str) : Bool := !(x == ("__debug__" : Str)) && !(x == ("__classdict__" : Str)) && !(x == ("__name__" : Str))
def stoN (S : Sx) (x : Str) : Bool := match S.sc.names.lookup x with
  | some .local => true | some .cell => S.fnc x | _ => false
def atN (S : Sx) (i : Nat) (x : Str) : Bool := match S.N[i]? with
  | some y => decide (y = x) | none => false

def b1Name : B1 → Str
  | .len => "len" | .sum => "sum" | .all => "all" | .any => "any" | .tuple => "tuple" | .list => "list" | .int => "int" | .max => "max" | .min => "min" | .sorted => "sorted"
def tyName : Nat → Option String
  | 0 => some "int" | 1 => some "bool" | 2 => some "str" | 3 => some "tuple" | 4 => some "list" | _ => none
def fnIs (T : Tb) (k : Nat) (x : Str) : Bool := match T.fns[k]? with
  | some f => decide (f.name = x) | none => false
def conIs (T : Tb) (k : Nat) (x : Str) : Bool := match T.cons[k]? with
  | some p => decide (p.1 = x) | none => false

mutual
/-- a target; ok: which slots it may store to -/
def chkT (S : Sx) (ok : Nat → Bool) : Tg → Expr → Bool
  | .nm i => fun pe => match pe with | .Name x _ => atN S i x && stoN S x && ok i | _ => false
  | .tup ts => fun pe => match pe with | .Tuple es _ _ => chkTs S ok ts es | _ => false
  | .nil => fun _ => false
  | .cons _ _ => fun _ => false
def chkTs (S : Sx) (ok : Nat → Bool) : Tg → List Expr → Bool
  | .nil => fun es => match es with | [] => true | _ :: _ => false
  | .cons t ts => fun es => match es with | e :: r => chkT S ok t e && chkTs S ok ts r | [] => false
  | .nm _ => fun _ => false
  | .tup _ => fun _ => false
end

def inner (S : Sx) (scope : Scope) : Sx := ⟨S.N, relS scope S.sc, fun x => scope.names.lookup x == some .cell⟩

/-- names of defs -/
def chkFs (T : Tb) (S : Sx) : List Nat → List Expr → Bool
  | [], [] => true
  | k :: ks, .Name x _ :: es => fnIs T k x && glN S.sc x && plainN x && chkFs T S ks es
  | _, _ => false
/-- where an expression stands: 0 a value, 1 walked to one name, 2 walked to several -/
def tgF : Expr → Nat
  | .Tuple _ _ _ => 2
  | _ => 1
mutual
def chk (T : Tb) : E → Sx → Nat → Expr → Bool
  | .non => fun _ _ pe => match pe with | .Constant .none _ _ => true | _ => false
  | .bl b => fun _ _ pe => match pe with | .Constant (.bool c) _ _ => b == c | _ => false
  | .int i => fun _ _ pe => match pe with | .Constant (.int j) _ _ => decide (i = j) | _ => false
  | .str s => fun _ _ pe => match pe with | .Constant (.str u) _ _ => decide (s = u) | _ => false
  | .var i => fun S _ pe => match pe with | .Name x _ => atN S i x && visN S.sc x && plainN x | _ => false
  | .gc k => fun S _ pe => match pe with | .Name x _ => conIs T k x && glN S.sc x && plainN x | _ => false
  | .anil => fun _ _ _ => false
  | .acons _ _ => fun _ _ _ => false
  | .tup es => fun S _ pe => match pe with | .Tuple as _ _ => chkA T es S as | _ => false
  | .lst es => fun S _ pe => match pe with | .List as _ => chkA T es S as | _ => false
  | .bin o a b => fun S _ pe => match pe with | .BinOp l p r _ => decide (o = p) && chk T a S 0 l && chk T b S 0 r | _ => false
  | .neg a => fun S _ pe => match pe with | .UnaryOp .USub l _ => chk T a S 0 l | _ => false
  | .not a => fun S _ pe => match pe with | .UnaryOp .Not l _ => chk T a S 0 l | _ => false
  | .and a b => fun S _ pe => match pe with
    | .BoolOp .And (v :: u :: vs) pos => chk T a S 0 v && (match vs with | [] => chk T b S 0 u | _ :: _ => chk T b S 0 (.BoolOp .And (u :: vs) pos))
    | _ => false
  | .or a b => fun S _ pe => match pe with
    | .BoolOp .Or (v :: u :: vs) pos => chk T a S 0 v && (match vs with | [] => chk T b S 0 u | _ :: _ => chk T b S 0 (.BoolOp .Or (u :: vs) pos))
    | _ => false
  | .cmp o a b => fun S _ pe => match pe with | .Compare l [p] [r] _ => decide (o = p) && !behindInMarks p r && chk T a S 0 l && chk T b S 0 r | _ => false
  | .chain o o' a b c => fun S _ pe => match pe with
    | .Compare l [p, p'] [r, u] _ => decide (o = p) && decide (o' = p') && !behindInMarks p r && !behindInMarks p' u && chk T a S 0 l && chk T b S 0 r && chk T c S 0 u
    | _ => false
  | .ife c a b => fun S _ pe => match pe with | .IfExp t l r _ => chk T c S 0 t && chk T a S 0 l && chk T b S 0 r | _ => false
  | .ix a i => fun S _ pe => match pe with | .Subscript v j _ => (match j with | .Slice .. => false | _ => true) && chk T a S 0 v && chk T i S 0 j | _ => false
  | .sl a lo hi => fun S _ pe => match pe with
    | .Subscript v (.Slice l h none _) _ => chk T a S 0 v && (match l with | none => isAnil lo | some le => !isAnil lo && chk T lo S 0 le) && (match h with | none => isAnil hi | some he => !isAnil hi && chk T hi S 0 he)
    | _ => false
  | .rev a => fun S _ pe => match pe with
    | .Subscript v (.Slice none none (some (.UnaryOp .USub (.Constant (.int i) _ _) _)) _) _ => decide (i = 1) && chk T a S 0 v
    | _ => false
  | .b1 f a => fun S _ pe => match pe with | .Call (.Name x _) [e] [] _ => decide (x = b1Name f) && glN S.sc x && chk T a S 0 e | _ => false
  | .isi a k => fun S _ pe => match pe with
    | .Call (.Name x _) [e, .Name y _] [] _ => decide (x = "isinstance") && glN S.sc x && glN S.sc y && (match tyName k with | some t => decide (y = t) | none => false) && chk T a S 0 e
    | _ => false
  | .call f es => fun S _ pe => match pe with | .Call (.Name x _) as [] _ => fnIs T f x && glN S.sc x && plainN x && chkA T es S as | _ => false
  | .callIf c f g es => fun S _ pe => match pe with
    | .Call (.IfExp t (.Name x _) (.Name y _) _) (a :: as) [] _ => chk T c S 0 t && fnIs T f x && glN S.sc x && plainN x && fnIs T g y && glN S.sc y && plainN y && chkA T es S (a :: as)
    | _ => false
  | .callIx fs i es => fun S _ pe => match pe with
    | .Call (.Subscript (.List fl _) j _) (a :: as) [] _ => (match j with | .Slice .. => false | _ => true) && Nat.ble fl.length 1000 && chk T i S 0 j && chkFs T S fs fl && chkA T es S (a :: as)
    | _ => false
  | .rng es => fun S n pe => match pe with | .Call (.Name x _) as [] _ => !(n == 0) && decide (x = "range") && glN S.sc x && chkA T es S as | _ => false
  | .zip es => fun S n pe => match pe with | .Call (.Name x _) (a :: as) [] _ => n == 2 && decide (x = "zip") && glN S.sc x && chkA T es S (a :: as) | _ => false
  | .enm a => fun S n pe => match pe with | .Call (.Name x _) [e] [] _ => n == 2 && decide (x = "enumerate") && glN S.sc x && chk T a S 0 e | _ => false
  | .lz es => fun S _ pe => match pe with | .Call (.Name x _) [.Call (.Name y _) [a, b] [] _] [] _ => decide (x = "list") && decide (y = "zip") && glN S.sc x && glN S.sc y && chkA T es S [a, b] | _ => false
  | .sset a => fun S _ pe => match pe with | .Call (.Name x _) [.Call (.Name y _) [e] [] _] [] _ => decide (x = "sorted") && decide (y = "set") && glN S.sc x && glN S.sc y && chk T a S 0 e | _ => false
  | .mm mx a b => fun S _ pe => match pe with | .Call (.Name x _) [e, f] [] _ => decide (x = if mx then "max" else "min") && glN S.sc x && chk T a S 0 e && chk T b S 0 f | _ => false
  | .lc elt tg it cond own => fun S _ pe => match pe with
    | .ListComp e [⟨t, i, ifs, z⟩] scope _ => decide (z = 0) && blkC S.N S.sc scope own && chk T it S (tgF t) i &&
      chkT (inner S scope) (fun i => (own.map (·.2)).contains i) tg t && (match ifs with | [] => isAnil cond | [ce] => !isAnil cond && chk T cond (inner S scope) 0 ce | _ => false) && chk T elt (inner S scope) 0 e
    | _ => false
def chkA (T : Tb) : E → Sx → List Expr → Bool
  | .anil => fun _ pe => match pe with | [] => true | _ => false
  | .acons a es => fun S pe => match pe with | e :: r => chk T a S 0 e && chkA T es S r | [] => false
  | _ => fun _ _ => false
end

theorem chk_bin (T : Tb) (o a b S n pe) : chk T (.bin o a b) S n pe = (match pe with | .BinOp l p r _ => decide (o = p) && chk T a S 0 l && chk T b S 0 r | _ => false) := rfl
end CS

/-! operators and built-ins, by values -/
namespace CS
open PySem L2 PySem.Spec PyProof.Rows

theorem big_le {n : Nat} (h : big n = true) : n ≤ sizeLine := by
  rw [sizeLine_eq]
  exact Nat.le_of_ble_eq_true h

/-! ### a tuple times 1 -/
theorem tuple_mul1 (l : Addr) (items : Array Value) (n : Nat) (dd : Option Addr) (sl : Array (Option Value)) (u : Tok) :
    Meets (Builtin.«tuple.__mul__» ⟨[.ref l, .int 1 u], []⟩) (fun _ R s => s.heap.get? l = some { cls := .type "tuple", dict := dd, data := .seq items n, slots := sl } ∧ R (.ok (.ret (.ref l))) s) :=
  .of_wp fun prog w A R s h => by
    obtain ⟨hp, g, d, tk, os⟩ := s
    obtain ⟨hl, h⟩ := h
    have f1 := AutoSeq1.idx_int
    have c0 : (decide ((1 : Int) < -(2 ^ 63)) || decide ((1 : Int) ≥ 2 ^ 63)) = false := by decide
    have c1 : (items.isEmpty || (1 : Int) == 1) = true := by simp
    wp_walk using AutoSeq1.wpAny_loadPart' hl
    repeat (first
      | (refine wpAny_ite_false (decide_eq_false (by rw [c0]; exact Bool.false_ne_true)) ?_; wp_walk using AutoSeq1.wpAny_loadPart' hl)
      | (refine wpAny_ite_true (decide_eq_true c1) ?_; wp_walk using AutoSeq1.wpAny_loadPart' hl))
    exact ⟨_, rfl, h⟩
def rRepT1 (K : PySem.W.Frag) : R2 := fun x y H Q => ∃ l xs, x = .ref l ∧ y = .int 1 ∧ SqT K H l xs ∧ Q (.ref l) H
theorem op_repT1 {X : Cx} : OpR X (binaryOp .Mult) (rRepT1 X.K) := by
  intro pins s σ H x y v u Q I rx ry h
  obtain ⟨l, xs, rfl, rfl, hT, q⟩ := h
  cases rx
  obtain ⟨t, rfl⟩ := ry
  obtain ⟨its, r, ⟨⟨cls, dd, data, sl⟩, ho, hc, n, hd⟩, hs⟩ := I.tuple hT
  simp only at hc hd
  subst hc hd
  exact wpAny_binaryOp_repeat_ref (T := "tuple") (U := "int") (by decide) ⟨_, ho, rfl⟩ (fun s' => typeIs_int s' 1 t) noFill_tuple_mul F.fills_int_mul F.slot_int_rmul repeat_tuple F.slot_int_index.lookup
    (call_meets F.slot_int_rmul (typeIs_int s 1 t) F.entry_int_rmul (F.args_int_rmul_2 _ _) (int_rmul_tuple 1 t l its.toArray n dd sl)
      ⟨ho, rfl, ⟨_, ho, rfl⟩, call_meets F.slot_tuple_mul ⟨_, ho, rfl⟩ F.entry_tuple_mul (F.args_tuple_mul_2 _ _) (tuple_mul1 l its.toArray n dd sl t) ⟨ho, .ref l, H, I, rfl, q⟩⟩)
section
variable {X : Cx} {cls : Nat → Option Addr} {W : WX} {U : AS} {r : Rho} {σ : L2.St} {H : Hp} {fr : Bool} {Q : VK}
abbrev Rd2 (X : Cx) (cls : Nat → Option Addr) (W : WX) (f : Value → Value → Sem Value) (g : D → D → Res D) (rr : R2) : Prop :=
  OpR X f rr ∧ ∀ (U : AS) (r : Rho) (σ : L2.St) (H : Hp) (fr : Bool) (Q : VK) (x y : D) (v u : V), Rp X.K (hide H U) x v → Rp X.K (hide H U) y u → tR X.K cls W U r fr (g x y) σ H Q → rr v u H Q
theorem noOp {f : Value → Value → Sem Value} : OpR X f (fun _ _ _ _ => False) := fun _ _ _ _ _ _ _ _ _ _ _ _ h => h.elim
theorem bad_elim {α : Prop} (h : tR X.K cls W U r fr .bad σ H Q) : α := h.2.2.elim

theorem rp_tup {K : PySem.W.Frag} {F : Hp} {ds : List D} {v : V} (h : Rp K F (.tup ds) v) : ∃ a vs, v = .ref a ∧ F a = some (.tup vs) ∧ RpAll K F ds vs := by simpa only [Rp] using h
theorem rp_lst {K : PySem.W.Frag} {F : Hp} {ds : List D} {v : V} (h : Rp K F (.lst ds) v) : ∃ a vs, v = .ref a ∧ F a = some (.lst vs) ∧ RpAll K F ds vs := by simpa only [Rp] using h
theorem rp_scr {K : PySem.W.Frag} {F : Hp} {ns : List Int} {v : V} (h : Rp K F (.scr ns) v) : ∃ a, v = .ref a ∧ Scr K F a ns := by simpa only [Rp] using h
theorem rp_int {K : PySem.W.Frag} {F : Hp} {i : Int} {v : V} : Rp K F (.int i) v ↔ v = .int i := by simp only [Rp]
theorem rp_bl {K : PySem.W.Frag} {F : Hp} {i : Bool} {v : V} : Rp K F (.bl i) v ↔ v = .bl i := by simp only [Rp]
theorem rp_str {K : PySem.W.Frag} {F : Hp} {i : Str} {v : V} : Rp K F (.str i) v ↔ v = .str i := by simp only [Rp]
theorem rp_non {K : PySem.W.Frag} {F : Hp} {v : V} : Rp K F .non v ↔ v = .non := by simp only [Rp]
theorem tR_int {i : Int} (h : tR X.K cls W U r fr (.val (.int i)) σ H Q) : Q (.int i) H := tR_val h (rp_int.mpr rfl) (fun _ z => nomatch z)
theorem tR_bl {i : Bool} (h : tR X.K cls W U r fr (.val (.bl i)) σ H Q) : Q (.bl i) H := tR_val h (rp_bl.mpr rfl) (fun _ z => nomatch z)

theorem rd_add : ∃ rr, Rd2 X cls W (binaryOp .Add) addD rr := by
  refine ⟨_, op_add.or (op_catA.or op_cat), fun U r σ H fr Q x y v u hx hy h => ?_⟩
  unfold addD at h
  split at h
  · rename_i i j
    exact .inl ⟨i, j, rp_int.mp hx, rp_int.mp hy, tR_int h⟩
  · rename_i xs ys
    split at h
    · rename_i hb
      obtain ⟨a, vs, rfl, ea, pa⟩ := rp_tup hx
      obtain ⟨b, us, rfl, eb, pb⟩ := rp_tup hy
      have la := pa.length
      have lb := pb.length
      refine .inr (.inl ⟨a, b, vs, us, rfl, rfl, SqT.of (hide_le _ _ _ _ ea), SqT.of (hide_le _ _ _ _ eb), by rw [← la, ← lb]; exact big_le hb, fun e => ?_, fun _ e => ?_, fun _ _ p hp => tR_tup h (pa.app pb) p hp⟩)
      · subst e
        have : xs = [] := List.eq_nil_of_length_eq_zero la
        subst this
        exact tR_val h hy (fun _ z => nomatch z)
      · subst e
        have : ys = [] := List.eq_nil_of_length_eq_zero lb
        subst this
        rw [List.append_nil] at h
        exact tR_val h hx (fun _ z => nomatch z)
    · exact bad_elim h
  · rename_i xs ys
    split at h
    · rename_i hb
      obtain ⟨a, vs, rfl, ea, pa⟩ := rp_lst hx
      obtain ⟨b, us, rfl, eb, pb⟩ := rp_lst hy
      exact .inr (.inr ⟨a, b, vs, us, rfl, rfl, hide_le _ _ _ _ ea, hide_le _ _ _ _ eb, by rw [← pa.length, ← pb.length]; exact big_le hb, fun p hp => tR_lst h (pa.app pb) p hp⟩)
    · exact bad_elim h
  · exact bad_elim h
theorem rd_sub : ∃ rr, Rd2 X cls W (binaryOp .Sub) subD rr := by
  refine ⟨_, op_sub, fun U r σ H fr Q x y v u hx hy h => ?_⟩
  unfold subD at h
  split at h
  · rename_i i j
    exact ⟨i, j, rp_int.mp hx, rp_int.mp hy, tR_int h⟩
  · exact bad_elim h
theorem rd_mul : ∃ rr, Rd2 X cls W (binaryOp .Mult) mulD rr := by
  refine ⟨_, op_mul.or (op_repT.or (op_repT1.or op_rep)), fun U r σ H fr Q x y v u hx hy h => ?_⟩
  unfold mulD at h
  split at h
  · rename_i i j
    split at h
    · rename_i hb
      refine .inl ⟨i, j, rp_int.mp hx, rp_int.mp hy, ?_, tR_int h⟩
      simpa [mulOk, CMul] using hb
    · exact bad_elim h
  · rename_i xs k
    split at h
    · rename_i hb
      simp only [Bool.and_eq_true, decide_eq_true_eq, Bool.not_eq_true', Nat.ble_eq] at hb
      obtain ⟨⟨⟨h1, h2⟩, h3⟩, h4⟩ := hb
      obtain ⟨a, vs, rfl, ea, pa⟩ := rp_tup hx
      have hu := rp_int.mp hy
      subst hu
      have la := pa.length
      by_cases hk : k = 1
      · subst hk
        refine .inr (.inr (.inl ⟨a, vs, rfl, rfl, SqT.of (hide_le _ _ _ _ ea), ?_⟩))
        have e : repD xs (1 : Int).toNat = xs := by simp [repD]
        rw [e] at h
        exact tR_val h hx (fun _ z => nomatch z)
      · refine .inr (.inl ⟨a, k, vs, rfl, rfl, SqT.of (hide_le _ _ _ _ ea), fun e => ?_, by omega, h2, by omega, fun p hp => tR_tup h (pa.rep _) p hp⟩)
        subst e
        have : xs = [] := List.eq_nil_of_length_eq_zero la
        subst this
        simp at h3
    · exact bad_elim h
  · rename_i xs k
    split at h
    · rename_i hb
      simp only [Bool.and_eq_true, decide_eq_true_eq, Nat.ble_eq] at hb
      obtain ⟨⟨h1, h2⟩, h4⟩ := hb
      obtain ⟨a, vs, rfl, ea, pa⟩ := rp_lst hx
      have hu := rp_int.mp hy
      subst hu
      have la := pa.length
      refine .inr (.inr (.inr ⟨a, k, vs, rfl, rfl, hide_le _ _ _ _ ea, by omega, by omega, ?_, fun p hp => tR_lst h (pa.rep _) p hp⟩))
      rw [sizeLine_eq]
      have : vs.length * k.toNat ≤ 1000 * 1000 := Nat.mul_le_mul (by omega) (by omega)
      omega
    · exact bad_elim h
  · exact bad_elim h
theorem rd_div : ∃ rr, Rd2 X cls W (binaryOp .FloorDiv) divD rr := by
  refine ⟨_, op_fdivW, fun U r σ H fr Q x y v u hx hy h => ?_⟩
  unfold divD at h
  split at h
  · rename_i i j
    split at h
    · rename_i hb
      simp only [divOk, Bool.and_eq_true, decide_eq_true_eq] at hb
      refine ⟨i, j, rp_int.mp hx, rp_int.mp hy, ?_, tR_int h⟩
      refine wide_div (b := 200) hb.1 ?_ (by decide) (by decide)
      have h2 := hb.2
      have : (j.natAbs : Int) < 2 ^ 200 := by omega
      exact_mod_cast this
    · exact bad_elim h
  · exact bad_elim h
theorem rd_mod : ∃ rr, Rd2 X cls W (binaryOp .Mod) modD rr := by
  refine ⟨_, op_mod, fun U r σ H fr Q x y v u hx hy h => ?_⟩
  unfold modD at h
  split at h
  · rename_i i j
    split at h
    · rename_i hb
      exact ⟨i, j, rp_int.mp hx, rp_int.mp hy, of_decide_eq_true hb, tR_int h⟩
    · exact bad_elim h
  · exact bad_elim h
theorem rd_pow : ∃ rr, Rd2 X cls W (binaryOp .Pow) powD rr := by
  refine ⟨_, op_pow, fun U r σ H fr Q x y v u hx hy h => ?_⟩
  unfold powD at h
  split at h
  · rename_i i j
    split at h
    · rename_i hb
      simp only [powOk, Bool.and_eq_true, decide_eq_true_eq] at hb
      exact ⟨i, j, rp_int.mp hx, rp_int.mp hy, ⟨hb.1.1, by omega, hb.2⟩, tR_int h⟩
    · exact bad_elim h
  · exact bad_elim h
theorem rd_bin (o : Operator) : ∃ rr, Rd2 X cls W (binaryOp o) (binD o) rr := by
  cases o with
  | Add => exact rd_add
  | Sub => exact rd_sub
  | Mult => exact rd_mul
  | FloorDiv => exact rd_div
  | Mod => exact rd_mod
  | Pow => exact rd_pow
  | _ => exact ⟨_, noOp, fun U r σ H fr Q x y v u hx hy h => bad_elim h⟩

/-! ### comparisons -/
theorem eqV_of {K : PySem.W.Frag} {F : Hp} {x y : D} {v u : V} (hx : Rp K F x v) (hy : Rp K F y u) (sx : x.sc = true) (sy : y.sc = true) : eqV v u = eqD x y ∧ flatV v = true ∧ flatV u = true := by
  cases x <;> simp only [D.sc, Bool.false_eq_true] at sx <;> cases y <;> simp only [D.sc, Bool.false_eq_true] at sy <;> simp only [Rp] at hx hy <;> subst hx hy <;>
    simp [eqV, eqD, D.py, PyData.eqv, flatV]
theorem inV_of {K : PySem.W.Frag} {F : Hp} {x : D} {v : V} (hx : Rp K F x v) (sx : x.sc = true) : ∀ {ys : List D} {us : List V}, RpAll K F ys us → ys.all D.sc = true → inV v us = inD x ys ∧ us.all flatV = true
  | [], us, h, _ => by have := h.inv_nil; subst this; simp [inV, inD]
  | y :: ys, us, h, s => by
    obtain ⟨u, r, rfl, h1, h2⟩ := h.inv_cons
    simp only [List.all_cons, Bool.and_eq_true] at s
    obtain ⟨e1, e2⟩ := inV_of hx sx h2 s.2
    obtain ⟨e3, e4, e5⟩ := eqV_of h1 hx s.1 sx
    simp only [inV, inD, List.any_cons, List.all_cons] at e1 e2 ⊢
    rw [e1, e2, e3, e4]
    simp
theorem any_py (x : D) : ∀ ys : List D, (D.pys ys).any (fun z => PyData.eqv z x.py) = inD x ys
  | [] => by simp [D.pys, inD]
  | y :: ys => by
    have := any_py x ys
    simp only [inD] at this
    simp only [D.pys, List.any_cons, inD, this, eqD]
theorem nn_ne {x : D} {v : V} {K : PySem.W.Frag} {F : Hp} (h : Rp K F x v) (hx : x ≠ .non) : v ≠ .non := by
  intro e
  subst e
  cases x <;> simp [Rp] at h hx
theorem isD_noexc : ∀ (x y : D) (k : Nat), isD x y = .exc k → False := by
  intro x y k; cases x <;> cases y <;> simp [isD]
theorem isD_cases : ∀ (x y : D) (c : Bool), isD x y = .val c → (y = .non ∧ ((x = .non ∧ c = true) ∨ (x ≠ .non ∧ c = false))) ∨ ∃ a b, x = .bl a ∧ y = .bl b ∧ c = decide (a = b) := by
  intro x y c h
  cases x <;> cases y <;> simp [isD] at h ⊢ <;> first | (subst h; simp; done) | (simp [← h]; done) | exact h.symm | exact h
theorem rd_is : ∃ rr, Rd2 X cls W (compareOp .Is) (fun a b => (isD a b).bind fun c => .val (.bl c)) rr := by
  refine ⟨_, op_isN.or op_isBl, fun U r σ H fr Q x y v u hx hy h => ?_⟩
  dsimp only at h
  cases e : isD x y with
  | bad => rw [e] at h; exact bad_elim h
  | exc k => exact (isD_noexc x y k e).elim
  | val c =>
    rw [e] at h
    rcases isD_cases x y c e with ⟨rfl, h1⟩ | ⟨a, b, rfl, rfl, rfl⟩
    · have e2 := rp_non.mp hy
      subst e2
      refine .inl ⟨rfl, ?_⟩
      rcases h1 with ⟨rfl, rfl⟩ | ⟨h1, rfl⟩
      · have e1 := rp_non.mp hx
        subst e1
        exact tR_bl h
      · rw [decide_eq_false (nn_ne hx h1)]
        exact tR_bl h
    · have e1 := rp_bl.mp hx
      have e2 := rp_bl.mp hy
      subst e1 e2
      exact .inr ⟨a, b, rfl, rfl, tR_bl h⟩
theorem rd_isnot : ∃ rr, Rd2 X cls W (compareOp .IsNot) (fun a b => (isD a b).bind fun c => .val (.bl (!c))) rr := by
  refine ⟨_, op_notN.or op_notBl, fun U r σ H fr Q x y v u hx hy h => ?_⟩
  dsimp only at h
  cases e : isD x y with
  | bad => rw [e] at h; exact bad_elim h
  | exc k => exact (isD_noexc x y k e).elim
  | val c =>
    rw [e] at h
    rcases isD_cases x y c e with ⟨rfl, h1⟩ | ⟨a, b, rfl, rfl, rfl⟩
    · have e2 := rp_non.mp hy
      subst e2
      refine .inl ⟨rfl, ?_⟩
      rcases h1 with ⟨rfl, rfl⟩ | ⟨h1, rfl⟩
      · have e1 := rp_non.mp hx
        subst e1
        exact tR_bl h
      · rw [decide_eq_false (nn_ne hx h1)]
        exact tR_bl h
    · have e1 := rp_bl.mp hx
      have e2 := rp_bl.mp hy
      subst e1 e2
      exact .inr ⟨a, b, rfl, rfl, tR_bl h⟩
theorem dp_full {K : PySem.W.Frag} {x : D} {v : V} (h : Rp K (hide H U) x v) : Dp K H v x.py := (h.mono (hide_le _ _)).dp
theorem rd_cmp (hu : X.A.units + 65 < cLine) (o : CmpOp) : ∃ rr, Rd2 X cls W (compareOp o) (cmpD o) rr := by
  cases o with
  | Eq =>
    refine ⟨_, op_eqD (by omega), fun U r σ H fr Q x y v u hx hy h => ?_⟩
    simp only [cmpD] at h
    split at h
    · rename_i hb
      simp only [Bool.and_eq_true] at hb
      exact ⟨x.py, y.py, dp_full hx, dp_full hy, hb.1, hb.2, tR_bl h⟩
    · exact bad_elim h
  | NotEq =>
    refine ⟨_, op_neD (by omega), fun U r σ H fr Q x y v u hx hy h => ?_⟩
    simp only [cmpD] at h
    split at h
    · rename_i hb
      simp only [Bool.and_eq_true] at hb
      exact ⟨x.py, y.py, dp_full hx, dp_full hy, hb.1, hb.2, tR_bl h⟩
    · exact bad_elim h
  | Lt =>
    refine ⟨_, op_lt, fun U r σ H fr Q x y v u hx hy h => ?_⟩
    cases x <;> cases y <;> simp only [cmpD] at h <;> first | exact bad_elim h | exact ⟨_, _, rp_int.mp hx, rp_int.mp hy, tR_bl h⟩
  | LtE =>
    refine ⟨_, op_le, fun U r σ H fr Q x y v u hx hy h => ?_⟩
    cases x <;> cases y <;> simp only [cmpD] at h <;> first | exact bad_elim h | exact ⟨_, _, rp_int.mp hx, rp_int.mp hy, tR_bl h⟩
  | Gt =>
    refine ⟨_, op_gt, fun U r σ H fr Q x y v u hx hy h => ?_⟩
    cases x <;> cases y <;> simp only [cmpD] at h <;> first | exact bad_elim h | exact ⟨_, _, rp_int.mp hx, rp_int.mp hy, tR_bl h⟩
  | GtE =>
    refine ⟨_, op_ge, fun U r σ H fr Q x y v u hx hy h => ?_⟩
    cases x <;> cases y <;> simp only [cmpD] at h <;> first | exact bad_elim h | exact ⟨_, _, rp_int.mp hx, rp_int.mp hy, tR_bl h⟩
  | Is => exact rd_is
  | IsNot => exact rd_isnot
  | In =>
    refine ⟨_, op_in_seq.or (op_inD hu), fun U r σ H fr Q x y v u hx hy h => ?_⟩
    cases y with
    | tup ys =>
      simp only [cmpD] at h
      split at h
      · rename_i hb
        simp only [Bool.and_eq_true] at hb
        obtain ⟨a, vs, rfl, ea, pa⟩ := rp_tup hy
        obtain ⟨e1, e2⟩ := inV_of hx hb.1 pa hb.2
        obtain ⟨_, e4, _⟩ := eqV_of hx hx hb.1 hb.1
        refine .inl ⟨a, vs, rfl, .inr (SqT.of (hide_le _ _ _ _ ea)), e4, e2, ?_⟩
        simp only [Bool.false_eq_true, if_false]
        rw [e1]
        exact tR_bl h
      · exact bad_elim h
    | lst ys =>
      simp only [cmpD] at h
      split at h
      · rename_i hb
        simp only [Bool.and_eq_true] at hb
        have dy := dp_full hy
        simp only [D.py] at dy
        have sy := hb.2
        simp only [shp, D.py] at sy
        refine .inr ⟨x.py, D.pys ys, dp_full hx, dy, hb.1, sy, ?_⟩
        rw [any_py]
        exact tR_bl h
      · exact bad_elim h
    | _ => simp only [cmpD] at h; exact bad_elim h
  | NotIn =>
    refine ⟨_, op_notInD hu, fun U r σ H fr Q x y v u hx hy h => ?_⟩
    cases y with
    | lst ys =>
      simp only [cmpD] at h
      split at h
      · rename_i hb
        simp only [Bool.and_eq_true] at hb
        have dy := dp_full hy
        simp only [D.py] at dy
        have sy := hb.2
        simp only [shp, D.py] at sy
        refine ⟨x.py, D.pys ys, dp_full hx, dy, hb.1, sy, ?_⟩
        rw [any_py]
        exact tR_bl h
      · exact bad_elim h
    | _ => simp only [cmpD] at h; exact bad_elim h
end
end CS

/-! max, min, sorted over lists of data that can be compared -/
namespace CS
open PySem L2 PySem.Spec PyProof.Rows
open PySem.W (dataLt AlikeAll AllAlike Sortable alike)
section
variable {X : Cx}
def lessP (mx : Bool) (ds : List PyData) : Nat → Nat → Bool := fun i j => if mx then dataLt (ds.getD j .none) (ds.getD i .none) else dataLt (ds.getD i .none) (ds.getD j .none)
def rMxD (K : PySem.W.Frag) (mx : Bool) : List V → Hp → VK → Prop := fun xs H Q => ∃ (a : Addr) (vs : List V) (d : PyData) (ds : List PyData), xs = [.ref a] ∧ SqL K H a vs ∧ DpAll K H vs (d :: ds) ∧ AlikeAll (d :: ds) ∧ PyData.depthAll (d :: ds) ≤ 63 ∧
  ∀ v, vs[argBest (lessP mx (d :: ds)) ds.length]? = some v → Q v H
theorem vals_back {vs : List V} {us : List Value} {i : Nat} {u : Value} (h : Vals vs us) (e : us[i]? = some u) : ∃ v, vs[i]? = some v ∧ RelV v u := by
  have hl := h.length
  obtain ⟨hi, _⟩ := List.getElem?_eq_some_iff.mp e
  have hv : vs[i]? = some (vs[i]'(by omega)) := List.getElem?_eq_getElem (by omega)
  obtain ⟨u', e', r⟩ := h.get hv
  rw [e] at e'
  cases e'
  exact ⟨_, hv, r⟩
theorem cr_maxW (hc : X.calm = true) (hu : X.A.units + 65 < cLine) : CallR X (.builtin "max") (rMxD X.K true) := by
  intro pins s σ H xs us Q I r h
  obtain ⟨a, vs, d, ds, rfl, hs, hd, ha, hdep, q⟩ := h
  obtain ⟨its, rv, hl, hz⟩ := I.list hs
  rw [Vals.ref1 r]
  obtain ⟨as, hr⟩ := Dp.readsAll I _ _ its hd rv
  have hr' : ReadsAll s.heap its.toArray.toList (d :: ds) as := by simpa using hr
  have hn : its.toArray.size = ds.length + 1 := PySem.W.readsAll_len hr'
  refine PySem.call_max_walkH (PySem.W.iter_listW (A := X.A.in1) (I.ok.hd hc) hl.isList fun s₂ e W st hfp hw hk => ?_)
  refine ⟨_, _, _, _, _, _, _, s.heap, _, rfl, W, st, hfp, by omega, hw, hk, PySem.W.cmpIn_gt (A := X.A.in1) hr' ha (by show X.A.units + 1 + _ < _; omega), fun v s' hP m => ?_⟩
  obtain ⟨h', tk, rfl, hk'⟩ := PySem.W.moved_old e rfl m
  have e1 : its.toArray.size - 1 = ds.length := by omega
  rw [e1] at hP
  obtain ⟨x, hx, rx⟩ := vals_back rv (i := argBest (lessP true (d :: ds)) ds.length) (u := v) (by rw [List.getElem?_toArray] at hP; exact hP)
  exact ⟨x, H, I.kept hk', rx, q x hx⟩
theorem cr_minW (hc : X.calm = true) (hu : X.A.units + 65 < cLine) : CallR X (.builtin "min") (rMxD X.K false) := by
  intro pins s σ H xs us Q I r h
  obtain ⟨a, vs, d, ds, rfl, hs, hd, ha, hdep, q⟩ := h
  obtain ⟨its, rv, hl, hz⟩ := I.list hs
  rw [Vals.ref1 r]
  obtain ⟨as, hr⟩ := Dp.readsAll I _ _ its hd rv
  have hr' : ReadsAll s.heap its.toArray.toList (d :: ds) as := by simpa using hr
  have hn : its.toArray.size = ds.length + 1 := PySem.W.readsAll_len hr'
  refine PySem.call_min_walkH (PySem.W.iter_listW (A := X.A.in1) (I.ok.hd hc) hl.isList fun s₂ e W st hfp hw hk => ?_)
  refine ⟨_, _, _, _, _, _, _, s.heap, _, rfl, W, st, hfp, by omega, hw, hk, PySem.W.cmpIn_lt (A := X.A.in1) hr' ha (by show X.A.units + 1 + _ < _; omega), fun v s' hP m => ?_⟩
  obtain ⟨h', tk, rfl, hk'⟩ := PySem.W.moved_old e rfl m
  have e1 : its.toArray.size - 1 = ds.length := by omega
  rw [e1] at hP
  obtain ⟨x, hx, rx⟩ := vals_back rv (i := argBest (lessP false (d :: ds)) ds.length) (u := v) (by rw [List.getElem?_toArray] at hP; exact hP)
  exact ⟨x, H, I.kept hk', rx, q x hx⟩
/-- sorted(xs): the items with what is known of them, in order -/
def rSrtD (K : PySem.W.Frag) : List V → Hp → VK → Prop := fun xs H Q => ∃ (a : Addr) (ps : List (PyData × V)), xs = [.ref a] ∧ SqL K H a (ps.map (·.2)) ∧ DpAll K H (ps.map (·.2)) (ps.map (·.1)) ∧ AllAlike (ps.map (·.1)) ∧ Sortable (ps.map (·.1)) ∧ PyData.depthAll (ps.map (·.1)) ≤ 63 ∧
  ∀ p, H p = none → Q (.ref p) (upd H p (.lst ((ps.mergeSort (PySem.W.dataLe false (·.1))).map (·.2))))
theorem depth_mem : ∀ {ds : List PyData} {d : PyData}, d ∈ ds → d.depth ≤ PyData.depthAll ds
  | [], _, h => nomatch h
  | x :: xs, d, h => by
    simp only [PyData.depthAll]
    rcases List.mem_cons.mp h with rfl | h
    · omega
    · have := depth_mem h
      omega
theorem cr_sortW (hu : X.A.units + 65 < cLine) : CallR X (.builtin "sorted") (rSrtD X.K) := by
  intro pins s σ H xs us Q I r h
  obtain ⟨a, ps, rfl, hs, hd, ha, hk, hdep, q⟩ := h
  obtain ⟨its, rv, hl, hz⟩ := I.list hs
  rw [Vals.ref1 r]
  obtain ⟨as, hr⟩ := Dp.readsAll I _ _ its hd rv
  have e1 : PySem.W.EachIs (fun (u : Value) (b : PyData × V) => RelV b.2 u) its ps := by
    clear hs hd ha hk hdep q hl hz hr
    induction ps generalizing its with
    | nil => cases rv; exact .nil
    | cons p ps ih =>
      cases rv with
      | cons r1 r2 => exact .cons r1 (ih _ r2)
  have e2 : PySem.W.EachIs (fun v (b : PyData × V) => ∃ as, Reads s.heap v b.1 as) its ps := PySem.W.readsAll_each (fun b : PyData × V => b.1) hr
  have hlen : ps.length ≤ sizeLine := by simpa using hz
  refine PySem.W.sorted_data (enc := fun b : PyData × V => b.1) hl.isList e1 e2 ha hk hlen (fun b hb => ?_) fun out h1 h2 => ?_
  · have : b.1.depth ≤ PyData.depthAll (ps.map (·.1)) := depth_mem (List.mem_map_of_mem (f := fun b : PyData × V => b.1) hb)
    show X.A.units + 2 + b.1.depth < cLine
    omega
  · obtain ⟨ep, he'⟩ := PyProof.Rows.sortedAll_at s.heap its out.toArray
    have hv : Vals ((ps.mergeSort (PySem.W.dataLe false (·.1))).map (·.2)) out := by
      clear h1 he'
      generalize ps.mergeSort (PySem.W.dataLe false (·.1)) = zs at h2
      induction h2 with
      | nil => exact .nil
      | cons r1 _ ih => exact .cons r1 ih
    refine ⟨.ref _, upd H (s.heap.objs.size + 1) (.lst ((ps.mergeSort (PySem.W.dataLe false (·.1))).map (·.2))), I.laid (t' := s.toks) (fun _ _ => PyProof.Rows.sortedAll_old) (Nat.le_succ _) ⟨?_, out, ep, hv, ?_⟩, rfl, q _ (I.hok.fresh (Nat.le_succ _))⟩
    · rw [List.length_map, List.length_mergeSort]; exact hlen
    · exact he'
end
end CS

/-! built-in calls, subscripts, the context, calls of defs, targets -/
namespace CS
open PySem L2 PySem.Spec PyProof.Rows

section
variable {X : Cx} {cls : Nat → Option Addr} {W : WX}
/-- a call of a built-in of one argument -/
def RdB (X : Cx) (cls : Nat → Option Addr) (W : WX) (f : Value) (g : D → Res D) (rr : List V → Hp → VK → Prop) : Prop :=
  CallR X f rr ∧ ∀ (U : AS) (r : Rho) (σ : L2.St) (H : Hp) (fr : Bool) (Q : VK) (x : D) (v : V), Rp X.K (hide H U) x v → tR X.K cls W U r fr (g x) σ H Q → rr [v] H Q
def b1Val : B1 → Value
  | .len => .builtin "len" | .sum => .builtin "sum" | .all => .builtin "all" | .any => .builtin "any" | .tuple => .type "tuple" | .list => .type "list" | .int => .type "int" | .max => .builtin "max" | .min => .builtin "min" | .sorted => .builtin "sorted"
theorem pys_getD : ∀ (l : List D) (i : Nat), (D.pys l).getD i .none = (l.getD i .non).py
  | [], i => by simp [D.pys, D.py]
  | x :: xs, 0 => by simp [D.pys]
  | x :: xs, i + 1 => by
    have := pys_getD xs i
    simpa [D.pys] using this
theorem pys_mem : ∀ {l : List D} {p : PyData}, p ∈ D.pys l → ∃ d ∈ l, d.py = p
  | x :: xs, p, h => by
    simp only [D.pys, List.mem_cons] at h
    rcases h with rfl | h
    · exact ⟨x, by simp, rfl⟩
    · obtain ⟨d, h1, h2⟩ := pys_mem h
      exact ⟨d, by simp [h1], h2⟩
theorem pys_map : ∀ l : List D, D.pys l = l.map D.py
  | [] => rfl
  | x :: xs => by simp [D.pys, pys_map xs]
theorem cmp_alike {xs : List D} (h : cmpB xs = true) : PySem.W.AlikeAll (D.pys xs) := by
  have h' := List.all_eq_true.mp h
  refine ⟨fun p hp q hq => ?_, fun p hp e => ?_⟩
  · obtain ⟨a, ha, rfl⟩ := pys_mem hp
    obtain ⟨b, hb, rfl⟩ := pys_mem hq
    have := h' a ha
    simp only [Bool.and_eq_true] at this
    exact List.all_eq_true.mp this.2 b hb
  · obtain ⟨a, ha, rfl⟩ := pys_mem hp
    have := h' a ha
    simp only [Bool.and_eq_true] at this
    cases a <;> simp [D.item, D.py] at this e
theorem shp_depth {xs : List D} (h : shp (.lst xs) = true) : PyData.depthAll (D.pys xs) ≤ 63 := by
  have := PySem.SeqAt.depth_of_shaped (show SeqAt.shaped (D.lst xs).py = true from h)
  simp only [D.py, PyData.depth] at this
  omega
theorem mx_rd {U : AS} {r : Rho} {σ : L2.St} {H : Hp} {fr : Bool} {Q : VK} {y : D} {ys : List D} {v : V} (mx : Bool) (hc : cmpB (y :: ys) = true) (hs : shp (.lst (y :: ys)) = true) (hx : Rp X.K (hide H U) (.lst (y :: ys)) v)
    (h : tR X.K cls W U r fr (.val (if mx then maxL y ys else minL y ys)) σ H Q) : rMxD X.K mx [v] H Q := by
  obtain ⟨a, vs, rfl, ea, pa⟩ := rp_lst hx
  have dx := dp_full hx
  simp only [D.py] at dx
  have ha := cmp_alike hc
  have hd := shp_depth hs
  have hD : DpAll X.K H vs (D.pys (y :: ys)) := (pa.mono (hide_le _ _)).dp
  refine ⟨a, vs, y.py, D.pys ys, rfl, SqL.of (hide_le _ _ _ _ ea), hD, ha, hd, fun w hw => ?_⟩
  have hl : (D.pys ys).length = ys.length := by rw [pys_map, List.length_map]
  rw [hl] at hw
  have hf : lessP mx (y.py :: D.pys ys) = fun i j => (fun a b => if mx then ltD b a else ltD a b) ((y :: ys).getD i .non) ((y :: ys).getD j .non) := by
    funext i j
    have e1 := pys_getD (y :: ys) i
    have e2 := pys_getD (y :: ys) j
    simp only [D.pys] at e1 e2
    unfold lessP ltD
    rw [e1, e2]
  rw [hf] at hw
  obtain ⟨k1, k2⟩ := PySem.W.argBest_fold (fun a b => if mx then ltD b a else ltD a b) D.non y ys ys.length (Nat.le_refl _)
  rw [List.take_length] at k2
  have hfold : ys.foldl (fun a z => if (if mx then ltD a z else ltD z a) then z else a) y = if mx then maxL y ys else minL y ys := by
    cases mx <;> rfl
  rw [hfold] at k2
  generalize argBest (fun i j => (fun a b => if mx then ltD b a else ltD a b) ((y :: ys).getD i .non) ((y :: ys).getD j .non)) ys.length = k at hw k1 k2
  have hg : (y :: ys)[k]? = some ((y :: ys)[k]'(by simp; omega)) := List.getElem?_eq_getElem (by simp; omega)
  have hk : (y :: ys).getD k .non = (y :: ys)[k]'(by simp; omega) := by
    rw [List.getD_eq_getElem?_getD, hg]
    rfl
  obtain ⟨u, g1, g2⟩ := pa.get hg
  rw [hw] at g1
  cases g1
  rw [← hk, k2] at g2
  refine tR_val h g2 fun zs e => ?_
  exfalso
  have hm : (if mx then maxL y ys else minL y ys) ∈ y :: ys := by
    rw [← k2, hk]
    exact List.getElem_mem _
  have := List.all_eq_true.mp hc _ hm
  rw [e] at this
  simp [D.item] at this
theorem rp_pairs {K : PySem.W.Frag} {F : Hp} : ∀ (ts : List (D × V)), (∀ t ∈ ts, Rp K F t.1 t.2) → RpAll K F (ts.map (·.1)) (ts.map (·.2))
  | [], _ => .nil
  | t :: ts, h => .cons (h t (by simp)) (rp_pairs ts fun x hx => h x (by simp [hx]))
theorem rp_zip {K : PySem.W.Frag} {F : Hp} : ∀ {ds : List D} {vs : List V}, RpAll K F ds vs → ∃ ts : List (D × V), ds = ts.map (·.1) ∧ vs = ts.map (·.2) ∧ ∀ t ∈ ts, Rp K F t.1 t.2
  | [], vs, h => ⟨[], rfl, by rw [h.inv_nil]; rfl, fun _ z => nomatch z⟩
  | d :: ds, vs, h => by
    obtain ⟨v, us, rfl, h1, h2⟩ := h.inv_cons
    obtain ⟨ts, e1, e2, e3⟩ := rp_zip h2
    subst e1 e2
    refine ⟨(d, v) :: ts, rfl, rfl, fun t ht => ?_⟩
    rcases List.mem_cons.mp ht with rfl | ht
    · exact h1
    · exact e3 t ht
theorem srt_rd {U : AS} {r : Rho} {σ : L2.St} {H : Hp} {fr : Bool} {Q : VK} {xs : List D} {v : V} (hc : cmpB xs = true) (hb : sortB xs = true) (hs : shp (.lst xs) = true) (hx : Rp X.K (hide H U) (.lst xs) v)
    (h : tR X.K cls W U r fr (.val (.lst (sortL xs))) σ H Q) : rSrtD X.K [v] H Q := by
  obtain ⟨a, vs, rfl, ea, pa⟩ := rp_lst hx
  have ha := cmp_alike hc
  have hd := shp_depth hs
  have hD : DpAll X.K H vs (D.pys xs) := (pa.mono (hide_le _ _)).dp
  obtain ⟨ts, e1, e2, e3⟩ := rp_zip pa
  subst e1 e2
  have f1 : (ts.map fun t => (t.1.py, t.2)).map (·.1) = D.pys (ts.map (·.1)) := by rw [pys_map]; simp
  have f2 : (ts.map fun t => (t.1.py, t.2)).map (·.2) = ts.map (·.2) := by simp
  refine ⟨a, ts.map fun t => (t.1.py, t.2), rfl, by rw [f2]; exact SqL.of (hide_le _ _ _ _ ea), by rw [f1, f2]; exact hD, by rw [f1]; exact fun x hx y hy => ha.1 x hx y hy, ?_, by rw [f1]; exact hd, fun p hp => ?_⟩
  · rw [f1]
    unfold sortB at hb
    simp only [Bool.or_eq_true] at hb
    rcases hb with hb | hb
    · refine .inl fun d hd' => ?_
      obtain ⟨x, hx', rfl⟩ := pys_mem hd'
      have := List.all_eq_true.mp hb x hx'
      cases x with
      | tup zs =>
        cases zs with
        | nil => simp [D.tup1] at this
        | cons z zs => exact ⟨_, _, rfl⟩
      | _ => simp [D.tup1] at this
    · refine .inr fun d hd' => ?_
      refine ⟨ha.2 d hd', fun zs e => ?_⟩
      obtain ⟨x, hx', rfl⟩ := pys_mem hd'
      have := List.all_eq_true.mp hb x hx'
      cases x <;> simp [D.tup0, D.py] at this e
  · have hm : (ts.map fun t => (t.1.py, t.2)).mergeSort (PySem.W.dataLe false (·.1)) = (ts.mergeSort (fun a b => !ltD b.1 a.1)).map fun t => (t.1.py, t.2) := by
      rw [List.map_mergeSort]
      intro a _ b _
      rfl
    have hs' : sortL (ts.map (·.1)) = (ts.mergeSort (fun a b => !ltD b.1 a.1)).map (·.1) := by
      unfold sortL
      rw [List.map_mergeSort]
      intro a _ b _
      rfl
    rw [hm, List.map_map]
    rw [hs'] at h
    exact tR_lst h (rp_pairs _ fun t ht => e3 t (List.mem_mergeSort.mp ht)) p hp
/-- sum(xs) of a list or a tuple of ints -/
def rSumA (K : PySem.W.Frag) : List V → Hp → VK → Prop := fun vs H Q => ∃ (a : Addr) (ns : List Int), vs = [V.ref a] ∧ (SqL K H a (ns.map V.int) ∨ SqT K H a (ns.map V.int)) ∧ Q (.int ns.sum) H
theorem cr_sumA (hc : X.calm = true) : CallR X (.builtin "sum") (rSumA X.K) := by
  intro pins s σ H vs us Q I r h
  obtain ⟨a, ns, rfl, hs | hs, q⟩ := h
  · exact cr_sum hc pins s σ H [V.ref a] us Q I r ⟨a, ns, rfl, hs, q⟩
  · obtain ⟨its, rv, hl, _⟩ := I.tuple hs
    rw [Vals.ref1 r]
    have hi := rv.ints
    obtain ⟨xs, hx⟩ := hi.allInts.items
    have hn : numsOf its.toArray.toList = ns := by rw [show its.toArray.toList = its from rfl, hi.numsOf]
    have hl' : s.heap.IsTuple a its.toArray := hl
    rw [hx] at hl' hn
    rw [nums_intItems] at hn
    refine PySem.W.ktm_sumG (I.ok.hd hc) hl' fun h' tk t' hk => ?_
    rw [preSum_eq, List.take_of_length_le (by simp), hn]
    exact ⟨.int _, H, I.kept hk, ⟨_, rfl⟩, q⟩
theorem boot_b1 (f : B1) : bootBuiltins (b1Name f) = some (b1Val f) := by
  cases f <;> decide +kernel
theorem rd_b1 (hc : X.calm = true) (hu : X.A.units + 65 < cLine) (f : B1) : ∃ rr, RdB X cls W (b1Val f) (b1D f) rr := by
  cases f with
  | len =>
    refine ⟨_, call_len_seq, fun U r σ H fr Q x v hx h => ?_⟩
    cases x with
    | tup xs =>
      obtain ⟨a, vs, rfl, ea, pa⟩ := rp_tup hx
      refine ⟨a, vs, rfl, .inr (SqT.of (hide_le _ _ _ _ ea)), ?_⟩
      rw [← pa.length]
      exact tR_int h
    | lst xs =>
      obtain ⟨a, vs, rfl, ea, pa⟩ := rp_lst hx
      refine ⟨a, vs, rfl, .inl (SqL.of (hide_le _ _ _ _ ea)), ?_⟩
      rw [← pa.length]
      exact tR_int h
    | scr ns =>
      obtain ⟨a, rfl, ea⟩ := rp_scr hx
      refine ⟨a, _, rfl, .inl (ea.mono (hide_le _ _)).sq, ?_⟩
      rw [List.length_map]
      exact tR_int h
    | _ => exact bad_elim h
  | sum =>
    refine ⟨_, cr_sumA hc, fun U r σ H fr Q x v hx h => ?_⟩
    cases x with
    | lst xs =>
      obtain ⟨a, vs, rfl, ea, pa⟩ := rp_lst hx
      simp only [b1D] at h
      split at h
      · rename_i ns e
        have := pa.ints e
        subst this
        exact ⟨a, ns, rfl, .inl (SqL.of (hide_le _ _ _ _ ea)), tR_int h⟩
      · exact bad_elim h
    | tup xs =>
      obtain ⟨a, vs, rfl, ea, pa⟩ := rp_tup hx
      simp only [b1D] at h
      split at h
      · rename_i ns e
        have := pa.ints e
        subst this
        exact ⟨a, ns, rfl, .inr (SqT.of (hide_le _ _ _ _ ea)), tR_int h⟩
      · exact bad_elim h
    | _ => exact bad_elim h
  | all =>
    refine ⟨_, cr_all hc, fun U r σ H fr Q x v hx h => ?_⟩
    cases x with
    | lst xs =>
      obtain ⟨a, vs, rfl, ea, pa⟩ := rp_lst hx
      simp only [b1D] at h
      split at h
      · rename_i ns e
        have := pa.bools e
        subst this
        exact ⟨a, ns, rfl, SqL.of (hide_le _ _ _ _ ea), tR_bl h⟩
      · exact bad_elim h
    | _ => exact bad_elim h
  | any =>
    refine ⟨_, cr_any hc, fun U r σ H fr Q x v hx h => ?_⟩
    cases x with
    | lst xs =>
      obtain ⟨a, vs, rfl, ea, pa⟩ := rp_lst hx
      simp only [b1D] at h
      split at h
      · rename_i ns e
        have := pa.bools e
        subst this
        exact ⟨a, ns, rfl, SqL.of (hide_le _ _ _ _ ea), tR_bl h⟩
      · exact bad_elim h
    | _ => exact bad_elim h
  | tuple =>
    refine ⟨_, call_tuple_of, fun U r σ H fr Q x v hx h => ?_⟩
    cases x with
    | lst xs =>
      obtain ⟨a, vs, rfl, ea, pa⟩ := rp_lst hx
      exact ⟨a, vs, rfl, .inl ⟨SqL.of (hide_le _ _ _ _ ea), fun l hl => tR_tup h pa l hl⟩⟩
    | tup xs =>
      obtain ⟨a, vs, rfl, ea, pa⟩ := rp_tup hx
      exact ⟨a, vs, rfl, .inr ⟨SqT.of (hide_le _ _ _ _ ea), tR_val h hx (fun _ z => nomatch z)⟩⟩
    | _ => exact bad_elim h
  | list =>
    refine ⟨_, call_list_of, fun U r σ H fr Q x v hx h => ?_⟩
    cases x with
    | lst xs =>
      obtain ⟨a, vs, rfl, ea, pa⟩ := rp_lst hx
      exact ⟨a, vs, rfl, .inl (SqL.of (hide_le _ _ _ _ ea)), fun l hl => tR_lst h pa l hl⟩
    | tup xs =>
      obtain ⟨a, vs, rfl, ea, pa⟩ := rp_tup hx
      exact ⟨a, vs, rfl, .inr (SqT.of (hide_le _ _ _ _ ea)), fun l hl => tR_lst h pa l hl⟩
    | _ => exact bad_elim h
  | max =>
    refine ⟨_, cr_maxW hc hu, fun U r σ H fr Q x v hx h => ?_⟩
    cases x with
    | lst xs =>
      cases xs with
      | nil => exact bad_elim h
      | cons y ys =>
        simp only [b1D] at h
        split at h
        · rename_i hb
          simp only [Bool.and_eq_true] at hb
          exact mx_rd true hb.1 hb.2 hx h
        · exact bad_elim h
    | _ => exact bad_elim h
  | min =>
    refine ⟨_, cr_minW hc hu, fun U r σ H fr Q x v hx h => ?_⟩
    cases x with
    | lst xs =>
      cases xs with
      | nil => exact bad_elim h
      | cons y ys =>
        simp only [b1D] at h
        split at h
        · rename_i hb
          simp only [Bool.and_eq_true] at hb
          exact mx_rd false hb.1 hb.2 hx h
        · exact bad_elim h
    | _ => exact bad_elim h
  | sorted =>
    refine ⟨_, cr_sortW hu, fun U r σ H fr Q x v hx h => ?_⟩
    cases x with
    | lst xs =>
      simp only [b1D] at h
      split at h
      · rename_i hb
        simp only [Bool.and_eq_true] at hb
        exact srt_rd hb.1.1 hb.1.2 hb.2 hx h
      · exact bad_elim h
    | _ => exact bad_elim h
  | int =>
    refine ⟨_, call_int1, fun U r σ H fr Q x v hx h => ?_⟩
    cases x with
    | int i => exact .inl ⟨i, by rw [rp_int.mp hx], tR_int h⟩
    | _ => exact bad_elim h

/-! ### isinstance -/
def tyStr : Nat → String
  | 0 => "int" | 1 => "bool" | 2 => "str" | 3 => "tuple" | 4 => "list" | _ => "NoneType"
theorem kit_no : ∀ k T : Nat, k < 6 → T < 5 → kitB (tyStr k) (tyStr T) = some (k == T || (k == 1 && T == 0)) := by
  intro k T hk hT
  have : ∀ k : Fin 6, ∀ T : Fin 5, kitB (tyStr k) (tyStr T) = some (k.val == T.val || (k.val == 1 && T.val == 0)) := by decide +kernel
  exact this ⟨k, hk⟩ ⟨T, hT⟩
theorem ty_of {K : PySem.W.Frag} {H : Hp} {U : AS} {x : D} {v : V} {k : Nat} (hx : Rp K (hide H U) x v) (e : tyNo x = some k) : TyX K H v (.type (tyStr k)) ∧ k < 6 := by
  cases x with
  | non => simp only [tyNo, Option.some.injEq] at e; subst e; rw [rp_non.mp hx]; exact ⟨.base .non, by decide⟩
  | bl b => simp only [tyNo, Option.some.injEq] at e; subst e; rw [rp_bl.mp hx]; exact ⟨.base (.bl b), by decide⟩
  | int b => simp only [tyNo, Option.some.injEq] at e; subst e; rw [rp_int.mp hx]; exact ⟨.base (.int b), by decide⟩
  | str b => simp only [tyNo, Option.some.injEq] at e; subst e; rw [rp_str.mp hx]; exact ⟨.base (.str b), by decide⟩
  | tup xs =>
    simp only [tyNo, Option.some.injEq] at e
    subst e
    obtain ⟨a, vs, rfl, ea, pa⟩ := rp_tup hx
    exact ⟨.base (.tup (hide_le _ _ _ _ ea)), by decide⟩
  | lst xs =>
    simp only [tyNo, Option.some.injEq] at e
    subst e
    obtain ⟨a, vs, rfl, ea, pa⟩ := rp_lst hx
    exact ⟨.base (.lst (hide_le _ _ _ _ ea)), by decide⟩
  | _ => simp [tyNo] at e
theorem rd_isi {U : AS} {r : Rho} {σ : L2.St} {H : Hp} {fr : Bool} {Q : VK} {x : D} {v : V} {T : Nat} (hT : T < 5) (hx : Rp X.K (hide H U) x v) (h : tR X.K cls W U r fr (isiD x T) σ H Q) : rIsi X.K [v, .ty (tyStr T)] H Q := by
  unfold isiD at h
  split at h
  · rename_i k e
    obtain ⟨t1, t2⟩ := ty_of hx e
    exact ⟨v, .ty (tyStr T), .type (tyStr k), .type (tyStr T), _, rfl, .ty _, t1, kit_ty (kit_no k T t2 hT), tR_bl h⟩
  · exact bad_elim h

/-! ### subscripts -/
theorem atD_V {K : PySem.W.Frag} {F : Hp} {xs : List D} {vs : List V} {i : Int} {d : D} (p : RpAll K F xs vs) (e : atD xs i = .val d) : ∃ v, atI vs i = some v ∧ Rp K F d v := by
  unfold atD at e
  split at e
  · rename_i d' e'
    cases e
    rw [Option.bind_eq_some_iff] at e'
    obtain ⟨j, e1, e2⟩ := e'
    obtain ⟨v, e3, e4⟩ := p.get e2
    refine ⟨v, ?_, e4⟩
    unfold atI
    have : L2.ixN vs.length i = some j := by rw [← p.length]; exact e1
    rw [this]
    exact e3
  · cases e
theorem rd_ix : ∃ rr : R2, IxR X rr ∧ ∀ (U : AS) (r : Rho) (σ : L2.St) (H : Hp) (Q : VK) (x y : D) (v u : V), Rp X.K (hide H U) x v → Rp X.K (hide H U) y u → tR X.K cls W U r false (ixD x y) σ H Q → rr v u H Q := by
  refine ⟨_, ix_seq, fun U r σ H Q x y v u hx hy h => ?_⟩
  have fin : ∀ {xs : List D} {vs : List V} {i : Int}, RpAll X.K (hide H U) xs vs → tR X.K cls W U r false (atD xs i) σ H Q → ∃ w, atI vs i = some w ∧ Q w H := fun {xs vs i} p h => by
    cases e : atD xs i with
    | val d =>
      rw [e] at h
      obtain ⟨w, e1, e2⟩ := atD_V p e
      exact ⟨w, e1, h.2.2 w H (Same.refl _) e2 fun z => nomatch z⟩
    | exc k =>
      unfold atD at e
      split at e <;> cases e
    | bad => rw [e] at h; exact bad_elim h
  unfold ixD at h
  split at h
  · rename_i xs i
    obtain ⟨a, vs, rfl, ea, pa⟩ := rp_tup hx
    obtain ⟨w, e1, q⟩ := fin pa h
    exact .inr (.inl ⟨a, vs, i, w, rfl, rp_int.mp hy, SqT.of (hide_le _ _ _ _ ea), e1, q⟩)
  · rename_i xs i
    obtain ⟨a, vs, rfl, ea, pa⟩ := rp_lst hx
    obtain ⟨w, e1, q⟩ := fin pa h
    exact .inl ⟨a, vs, i, w, rfl, rp_int.mp hy, SqL.of (hide_le _ _ _ _ ea), e1, q⟩
  · rename_i ns i
    obtain ⟨a, rfl, ea⟩ := rp_scr hx
    have pa : RpAll X.K (hide H U) (ns.map D.int) (ns.map V.int) := by
      clear ea hx h
      induction ns with
      | nil => exact .nil
      | cons n ns ih => exact .cons (rp_int.mpr rfl) ih
    obtain ⟨w, e1, q⟩ := fin pa h
    exact .inl ⟨a, _, i, w, rfl, rp_int.mp hy, (ea.mono (hide_le _ _)).sq, e1, q⟩
  · exact bad_elim h
theorem cutV_eq (vs : List V) (lo hi : Option Int) : cutV vs lo hi = cut vs lo hi := rfl
theorem RpAll.cut {K : PySem.W.Frag} {F : Hp} {ds : List D} {vs : List V} (p : RpAll K F ds vs) (lo hi : Option Int) : RpAll K F (cut ds lo hi) (cut vs lo hi) := by
  unfold CS.cut
  rw [p.length]
  exact (p.drop _).take _
theorem rd_sl : ∃ rr, SlR X rr ∧ ∀ (U : AS) (r : Rho) (σ : L2.St) (H : Hp) (fr : Bool) (Q : VK) (x : D) (v : V) (lo hi : Option Int), Rp X.K (hide H U) x v → tR X.K cls W U r fr (slD x lo hi) σ H Q → rr v lo hi H Q := by
  refine ⟨_, sl_tupA.or sl_list, fun U r σ H fr Q x v lo hi hx h => ?_⟩
  unfold slD at h
  split at h
  · rename_i xs
    obtain ⟨a, vs, rfl, ea, pa⟩ := rp_tup hx
    refine .inl ⟨a, vs, rfl, SqT.of (hide_le _ _ _ _ ea), fun e => ?_, fun _ p hp => by rw [cutV_eq]; exact tR_tup h (pa.cut lo hi) p hp⟩
    have hc : CS.cut xs lo hi = xs := by
      unfold CS.cut
      rw [pa.length, e.1, e.2]
      simp [← pa.length]
    rw [hc] at h
    exact tR_val h hx (fun _ z => nomatch z)
  · rename_i xs
    obtain ⟨a, vs, rfl, ea, pa⟩ := rp_lst hx
    exact .inr ⟨a, vs, rfl, SqL.of (hide_le _ _ _ _ ea), fun p hp => by rw [cutV_eq]; exact tR_lst h (pa.cut lo hi) p hp⟩
  · exact bad_elim h
end

/-! ### the context -/
def spOf (K : PySem.W.Frag) (cls : Nat → Option Addr) (f : Fn) : Sp := fun vs H Q E => vs.length = f.ps.length ∧ ∃ (U : AS) (ds : List D), Live U H ∧ RpAll K (hide H U) ds vs ∧ match f.sem ds with
  | .val d => ∀ v H', Same H H' → Rp K (hide H' U) d v → (f.fresh = true → ∀ xs, d = .lst xs → Fresh K U H H' xs v) → Q v H'
  | .exc k => ∃ C, cls k = some C ∧ ∀ H', Same H H' → E (.ref C) none H'
  | .bad => False
structure FnG (X : Cx) (cls : Nat → Option Addr) (f : Fn) : Prop where
  ex : ∃ (k : Nat) (a : Addr) (fd : FuncData), Room k X.A ∧ X.mg f.name = some (.ref a) ∧ PySem.W.keepIn X.K (.ref a) = true ∧ Binds X.K fd f.ps [] ∧ FnOk X.prog X.w X.K X.mg X.base (L2.CX X.prog X.w) k a fd f.ps (spOf X.K cls f)
def bltNames : List Str := ["len", "sum", "all", "any", "tuple", "list", "int", "isinstance", "bool", "str", "range", "zip", "enumerate", "max", "min", "sorted", "set"]
structure Gd (T : Tb) (cls : Nat → Option Addr) (S : Sx) (X : Cx) (W : WX) : Prop where
  calm : X.calm = true
  nd : X.N.Nodup
  hN : X.N = S.N
  sc : X.env.scope = S.sc
  fn : ∀ x, S.fnc x = true → X.fn x = true
  un : X.A.units + 65 < cLine
  tk : Takes X W
  blt : ∀ x ∈ bltNames, X.mg x = none
  con : ∀ p ∈ T.cons, ∃ u v, X.mg p.1 = some u ∧ RelV v u ∧ ∀ F, Rp X.K F p.2 v
  fns : ∀ f ∈ T.fns, FnG X cls f
section
variable {T : Tb} {cls : Nat → Option Addr} {S : Sx} {X : Cx} {W : WX}
theorem Gd.blk (g : Gd T cls S X W) (s : Shared) (H : Hp) (scope : Scope) (cl : List (Str × Addr)) (C : Addr) (fp : List Addr) : Gd T cls (inner S scope) (X.blk s H scope (compEnvC scope cl C X.env) fp) (fun _ _ _ _ => False) where
  calm := g.calm
  nd := g.nd
  hN := g.hN
  sc := by
    show relS scope X.env.scope = relS scope S.sc
    rw [g.sc]
  fn := fun x h => h
  un := g.un
  tk := takes0
  blt := g.blt
  con := g.con
  fns := fun f hf => ⟨(g.fns f hf).ex⟩
theorem Gd.gl (g : Gd T cls S X W) {x : Str} (h : glN S.sc x = true) : Gl X x := by
  unfold Gl Env.kindOf
  rw [g.sc]
  unfold glN at h
  split at h
  · assumption
  · cases h
theorem Gd.vis (g : Gd T cls S X W) {x : Str} (h : visN S.sc x = true) : Vis X.env.scope x := by
  unfold Vis
  rw [g.sc]
  unfold visN at h
  split at h
  · exact .inl (by assumption)
  · exact .inr (.inl (by assumption))
  · exact .inr (.inr (by assumption))
  · cases h
theorem Gd.at (g : Gd T cls S X W) {i : Nat} {x : Str} (h : atN S i x = true) : X.N[i]? = some x := by
  rw [g.hN]
  unfold atN at h
  split at h
  · rename_i y e
    rw [e, of_decide_eq_true h]
  · cases h
theorem Gd.sto (g : Gd T cls S X W) {x : Str} (h : stoN S x = true) : L2.Loc X.env.scope x ∧ (X.fn x = true ∨ X.env.scope.names.lookup x = some .local) := by
  unfold L2.Loc
  rw [g.sc]
  unfold stoN at h
  split at h
  · exact ⟨.inl (by assumption), .inr (by assumption)⟩
  · exact ⟨.inr (by assumption), .inl (g.fn x h)⟩
  · cases h
theorem plain_db {x : Str} (h : plainN x = true) : (x == ("__debug__" : Str)) = false ∧ (x == ("__classdict__" : Str)) = false ∧ x ≠ "__name__" := by
  simp only [plainN, Bool.and_eq_true, Bool.not_eq_true'] at h
  exact ⟨h.1.1, h.1.2, fun e => by rw [e] at h; simp at h⟩

/-! ### arguments -/
theorem star_cons {e : Expr} {es : List Expr} {env : PySem.Env} (h : ∀ x p, e ≠ .Starred x p) : starEach (e :: es) env = (false, eval e env) :: starEach es env := by
  cases e <;> first | rfl | exact absurd rfl (h _ _)
theorem plain_any {es : List Expr} {env : PySem.Env} {pos : Pos} (h : ∀ e ∈ es, ∀ x p, e ≠ .Starred x p) : (backTo pos (starEach es env)).any (·.1) = false := by
  induction es with
  | nil => rfl
  | cons e es ih =>
    rw [star_cons (h e (by simp))]
    show (false || _) = false
    rw [Bool.false_or]
    exact ih fun x hx => h x (by simp [hx])
theorem chk_nostar {T : Tb} {e : E} {S : Sx} {n : Nat} {pe : Expr} (h : chk T e S n pe = true) : ∀ x p, pe ≠ .Starred x p := by
  intro x p z
  subst z
  cases e <;> simp [chk] at h
theorem chkA_nostar {T : Tb} : ∀ {es : E} {S : Sx} {pes : List Expr}, chkA T es S pes = true → ∀ e ∈ pes, ∀ x p, e ≠ .Starred x p
  | .anil, S, pes, h => by
    cases pes with
    | nil => simp
    | cons a b => simp [chkA] at h
  | .acons a es, S, pes, h => by
    cases pes with
    | nil => simp
    | cons e r =>
      simp only [chkA, Bool.and_eq_true] at h
      intro x hx
      rcases List.mem_cons.mp hx with rfl | hx
      · exact chk_nostar h.1
      · exact chkA_nostar h.2 x hx
  | .non, _, _, h | .bl _, _, _, h | .int _, _, _, h | .str _, _, _, h | .var _, _, _, h | .gc _, _, _, h | .tup _, _, _, h | .lst _, _, _, h | .bin _ _ _, _, _, h | .neg _, _, _, h | .not _, _, _, h | .and _ _, _, _, h | .or _ _, _, _, h
  | .cmp _ _ _, _, _, h | .chain _ _ _ _ _, _, _, h | .ife _ _ _, _, _, h | .ix _ _, _, _, h | .sl _ _ _, _, _, h | .rev _, _, _, h | .b1 _ _, _, _, h | .isi _ _, _, _, h | .call _ _, _, _, h | .callIf _ _ _ _, _, _, h | .callIx _ _ _, _, _, h
  | .rng _, _, _, h | .zip _, _, _, h | .enm _, _, _, h | .mm _ _ _, _, _, h | .lz _, _, _, h | .sset _, _, _, h | .lc _ _ _ _ _, _, _, h => by simp [chkA] at h

/-! ### the call of a def -/
theorem call_rd {U : AS} {r : Rho} {σ : L2.St} {H : Hp} {fr : Bool} {Q : VK} {k : Nat} {f : Fn} {ds : List D} {vs : List V} (hf : T.fns[k]? = some f) (hfr : fr = true → f.fresh = true) (p : RpAll X.K (hide H U) ds vs) (h : tR X.K cls W U r fr (callF T k ds) σ H Q) : spOf X.K cls f vs H Q (WE W σ) := by
  unfold callF at h
  rw [hf] at h
  simp only at h
  split at h
  · rename_i hl
    have hl' := eq_of_beq hl
    refine ⟨by rw [← p.length]; exact hl', U, ds, h.1, p, ?_⟩
    obtain ⟨_, _, h⟩ := h
    revert h
    cases f.sem ds with
    | bad => exact fun h => h
    | exc c => exact fun h => h
    | val d => exact fun h v H' s q z => h v H' s q fun e xs w => z (hfr e) xs w
  · exact bad_elim h
theorem fnIs_get {k : Nat} {x : Str} (h : fnIs T k x = true) : ∃ f, T.fns[k]? = some f ∧ f.name = x := by
  unfold fnIs at h
  split at h
  · rename_i f e
    exact ⟨f, e, of_decide_eq_true h⟩
  · cases h
end
end CS

/-! sorted(set(xs)), xs a list of tuples of ints -/
namespace CS
open PySem L2 PySem.Spec PyProof.Rows
theorem dd_mem {t : List Int} : ∀ {ts : List (List Int)}, t ∈ ddT ts ↔ t ∈ ts
  | [] => Iff.rfl
  | x :: xs => by
    simp only [ddT]
    split
    · rename_i h
      have hx : x ∈ xs := by simpa using h
      rw [dd_mem (ts := xs), List.mem_cons]
      constructor
      · exact .inr
      · rintro (rfl | h)
        · exact hx
        · exact h
    · rw [List.mem_cons, List.mem_cons, dd_mem (ts := xs)]
theorem dd_nodup : ∀ ts : List (List Int), (ddT ts).Nodup
  | [] => List.nodup_nil
  | x :: xs => by
    simp only [ddT]
    split
    · exact dd_nodup xs
    · rename_i h
      refine List.nodup_cons.mpr ⟨fun z => h ?_, dd_nodup xs⟩
      have := dd_mem.mp z
      simpa using this
theorem ss_mem {t : List Int} {ts : List (List Int)} : t ∈ ssT ts ↔ t ∈ ts := by
  unfold ssT
  rw [List.mem_mergeSort, dd_mem]
theorem ss_pw (ts : List (List Int)) : (ssT ts).Pairwise fun a b => TS.code 64 a ≤ TS.code 64 b := by
  have h := List.pairwise_mergeSort (le := fun a b => decide (TS.code 64 a ≤ TS.code 64 b)) (fun a b c h1 h2 => by
    have h1 := of_decide_eq_true h1
    have h2 := of_decide_eq_true h2
    exact decide_eq_true (Int.le_trans h1 h2)) (fun a b => by
    rcases Int.le_total (TS.code 64 a) (TS.code 64 b) with h | h <;> simp [h]) (ddT ts)
  exact h.imp fun h => of_decide_eq_true h
theorem code_inj : ∀ {a b : List Int}, a.length = b.length → TS.Bd 64 a → TS.Bd 64 b → TS.code 64 a = TS.code 64 b → a = b
  | [], [], _, _, _, _ => rfl
  | [], _ :: _, h, _, _, _ => by simp at h
  | _ :: _, [], h, _, _, _ => by simp at h
  | x :: a, y :: b, hl, ha, hb, h => by
    have hl' : a.length = b.length := by simpa using hl
    rcases Int.lt_trichotomy x y with c | c | c
    · have := TS.code_lt hl' ha.tail hb.tail c
      omega
    · subst c
      have e : TS.code 64 a = TS.code 64 b := by
        have h' : x * 64 ^ a.length + TS.code 64 a = x * 64 ^ b.length + TS.code 64 b := h
        rw [hl'] at h'
        generalize x * 64 ^ b.length = X at h'
        omega
      rw [code_inj hl' ha.tail hb.tail e]
    · have := TS.code_lt hl'.symm hb.tail ha.tail c
      omega
/-- sorted by the code, each once, the same members: the same list -/
theorem ss_uniq {ts L : List (List Int)} {d : Nat} (hd : ∀ t ∈ ts, t.length = d ∧ TS.Bd 64 t) (hn : L.Nodup) (hp : L.Pairwise fun a b => TS.code 64 a ≤ TS.code 64 b) (hm : ∀ t, t ∈ L ↔ t ∈ ts) : ssT ts = L := by
  refine List.Perm.eq_of_pairwise (le := fun a b => TS.code 64 a ≤ TS.code 64 b) (fun a b ha hb h1 h2 => ?_) (ss_pw ts) hp ?_
  · have a1 := hd a (ss_mem.mp ha)
    have b1 := hd b ((hm b).mp hb)
    exact code_inj (by omega) a1.2 b1.2 (Int.le_antisymm h1 h2)
  · refine (List.mergeSort_perm _ _).trans ((List.perm_ext_iff_of_nodup (dd_nodup ts) hn).mpr fun t => ?_)
    rw [dd_mem, hm]
theorem tups_ks {K : PySem.W.Frag} {F : Hp} : ∀ {xs : List D} {vs : List V} {ts : List (List Int)}, tupsI xs = some ts → RpAll K F xs vs → ∃ ks : List (Addr × List Int), vs = ks.map (fun p => V.ref p.1) ∧ ks.map (·.2) = ts ∧ ∀ p ∈ ks, F p.1 = some (.tup (p.2.map V.int))
  | [], vs, ts, h, p => by
    cases h
    rw [p.inv_nil]
    exact ⟨[], rfl, rfl, fun _ z => nomatch z⟩
  | x :: xs, vs, ts, h, p => by
    obtain ⟨v, us, rfl, p1, p2⟩ := p.inv_cons
    simp only [tupsI] at h
    cases h1 : tupI x with
    | none => rw [h1] at h; cases h
    | some t =>
      cases h2 : tupsI xs with
      | none => rw [h1, h2] at h; cases h
      | some ts' =>
        rw [h1, h2] at h
        cases h
        obtain ⟨ks, e1, e2, e3⟩ := tups_ks h2 p2
        cases x with
        | tup ys =>
          obtain ⟨a, ws, rfl, ea, pa⟩ := rp_tup p1
          have := pa.ints (show intsD ys = some t from h1)
          subst this
          refine ⟨(a, t) :: ks, by rw [e1]; rfl, by rw [← e2]; rfl, fun q hq => ?_⟩
          rcases List.mem_cons.mp hq with rfl | hq
          · exact ea
          · exact e3 q hq
        | _ => cases h1
theorem rp_tups {K : PySem.W.Frag} {F : Hp} : ∀ (L : List (Addr × List Int)), (∀ p ∈ L, F p.1 = some (.tup (p.2.map V.int))) → RpAll K F ((L.map (·.2)).map fun t => D.tup (t.map .int)) (L.map fun p => V.ref p.1)
  | [], _ => .nil
  | p :: L, h => by
    refine .cons ?_ (rp_tups L fun q hq => h q (by simp [hq]))
    simp only [Rp]
    refine ⟨p.1, p.2.map V.int, rfl, h p (by simp), ?_⟩
    have : ∀ ns : List Int, RpAll K F (ns.map D.int) (ns.map V.int) := by
      intro ns
      induction ns with
      | nil => exact .nil
      | cons n ns ih => exact .cons (by simp only [Rp]) ih
    exact this p.2
theorem ss_rd {K : PySem.W.Frag} {P : Program} {w : World} {cls : Nat → Option Addr} {W : WX} {U : AS} {r : Rho} {σ : L2.St} {H : Hp} {fr : Bool} {Q : VK} {x : D} {v : V} (hx : Rp K (hide H U) x v) (h : tR K cls W U r fr (ssD x) σ H Q) : rSetOfT K P w [v] H fun y H2 => rSortedT K P w [y] H2 Q := by
  cases x with
  | lst xs =>
    obtain ⟨l, vs, rfl, el, pl⟩ := rp_lst hx
    simp only [ssD] at h
    split at h
    · rename_i ts ht
      split at h
      · rename_i hok
        obtain ⟨ks, rfl, e2, e3⟩ := tups_ks ht pl
        have hok' : ts.length + 1 ≤ 64 ∧ ∀ t ∈ ts, (t.length = (ts.headD [0]).length ∧ 1 ≤ t.length) ∧ TS.Bd 64 t := by
          simp only [ssOk, Bool.and_eq_true, List.all_eq_true, Nat.ble_eq, beq_iff_eq, decide_eq_true_eq] at hok
          exact ⟨hok.1, fun t ht => ⟨hok.2 t ht |>.1, fun m hm => (hok.2 t ht).2 m hm⟩⟩
        have hlen : ks.length = ts.length := by rw [← e2, List.length_map]
        refine ⟨l, ks, rfl, SqL.of (hide_le _ _ _ _ el), fun p hp => SqT.of (hide_le _ _ _ _ (e3 p hp)), by omega, fun a L ha hs hall => ?_⟩
        have hL : ∀ p ∈ L, hide H U p.1 = some (.tup (p.2.map V.int)) := fun p hp => e3 p (hs p hp)
        have hLt : ∀ t, t ∈ L.map (·.2) ↔ t ∈ ts := fun t => by
          constructor
          · intro ht
            obtain ⟨p, hp, rfl⟩ := List.mem_map.mp ht
            rw [← e2]
            exact List.mem_map.mpr ⟨p, hs p hp, rfl⟩
          · intro ht
            rw [← e2] at ht
            obtain ⟨p, hp, rfl⟩ := List.mem_map.mp ht
            exact hall p hp
        have hbd : ∀ p ∈ L, (p.2.length = (ts.headD [0]).length ∧ 1 ≤ p.2.length) ∧ TS.Bd 64 p.2 := fun p hp => hok'.2 p.2 ((hLt _).mp (List.mem_map.mpr ⟨p, hp, rfl⟩))
        have sa : Same H (upd H a (SetTO P w a L)) := Same.new ha
        refine ⟨a, L, (ts.headD [0]).length, 64, rfl, upd_same, fun p hp => SqT.of (sa _ _ (hide_le _ _ _ _ (hL p hp))), ?_, fun p hp => ⟨(hbd p hp).1.1, (hbd p hp).2⟩, fun L' p pm nd hl64 pw hp => ?_⟩
        · cases ts with
          | nil => decide
          | cons t ts => exact (hok'.2 t (by simp)).1.2
        · have hpa : p ≠ a := fun z => by
            rw [z, upd_same] at hp
            cases hp
          have hp0 : H p = none := by rw [upd_ne hpa] at hp; exact hp
          have s2 : Same H (upd (upd H a (SetTO P w a L)) p (.lst (L'.map fun q => V.ref q.1))) := fun b o e => (Same.new hp) b o (sa b o e)
          have hu : ssT ts = L'.map (·.2) := ss_uniq (d := (ts.headD [0]).length) (fun t ht => ⟨(hok'.2 t ht).1.1, (hok'.2 t ht).2⟩) nd (List.pairwise_map.mpr pw) fun t => by
            rw [← hLt t]
            exact (pm.map (·.2)).mem_iff
          rw [hu] at h
          obtain ⟨lv, ok, h⟩ := h
          have nU : ¬ U p := lv.not hp0
          have hm2 : ∀ q ∈ L', hide H U q.1 = some (.tup (q.2.map V.int)) := fun q hq => hL q (pm.mem_iff.mp hq)
          have m1 : Same (hide H U) (hide (upd (upd H a (SetTO P w a L)) p (.lst (L'.map fun q => V.ref q.1))) U) := hide_mono s2
          have m2 : Same (hide H U) (hide (upd (upd H a (SetTO P w a L)) p (.lst (L'.map fun q => V.ref q.1))) fun b => U b ∨ b = p) := fun b o e => by
            obtain ⟨n, e⟩ := hide_some e
            rw [hide_out (fun z => z.elim n (ne_of_none e hp0))]
            exact s2 b o e
          refine h (.ref p) _ s2 ?_ fun _ zs ez => ?_
          · simp only [Rp]
            exact ⟨p, _, rfl, by rw [hide_out nU]; exact upd_same, rp_tups L' fun q hq => m1 _ _ (hm2 q hq)⟩
          · cases ez
            exact ⟨p, _, rfl, hp0, upd_same, rp_tups L' fun q hq => m2 _ _ (hm2 q hq)⟩
      · exact h.2.2.elim
    · exact h.2.2.elim
  | _ => exact h.2.2.elim
end CS

/-! targets -/
namespace CS
open PySem L2 PySem.Spec PyProof.Rows

theorem PG.imp {X : Cx} {e : Expr} {t t' : TG} (p : PG X e t) (h : ∀ v σ H Q, t' v σ H Q → t v σ H Q) : PG X e t' := ⟨fun pins s σ H v u Q I r q => p.run pins s σ H v u Q I r (h v σ H Q q)⟩
theorem PGs.imp {X : Cx} {e : List Expr} {t t' : TGs} (p : PGs X e t) (h : ∀ v σ H Q, t' v σ H Q → t v σ H Q) : PGs X e t' := ⟨fun pins s σ H v u Q I r q => p.run pins s σ H v u Q I r (h v σ H Q q)⟩

def setV (σ : L2.St) : List (Nat × V) → L2.St
  | [] => σ
  | (i, v) :: l => setV (σ.set i (some v)) l
theorem setV_app : ∀ (l m : List (Nat × V)) (σ : L2.St), setV σ (l ++ m) = setV (setV σ l) m
  | [], m, σ => rfl
  | (i, v) :: l, m, σ => setV_app l m _
/-- the stored values stand for the stored data; ok: where they go -/
def AsOk (K : PySem.W.Frag) (F : Hp) (ok : Nat → Bool) : List (Nat × D) → List (Nat × V) → Prop
  | [], as => as = []
  | (i, d) :: l, as => ∃ v r, as = (i, v) :: r ∧ ok i = true ∧ Rp K F d v ∧ AsOk K F ok l r
theorem AsOk.app {K : PySem.W.Frag} {F : Hp} {ok : Nat → Bool} : ∀ {l m : List (Nat × D)} {as bs : List (Nat × V)}, AsOk K F ok l as → AsOk K F ok m bs → AsOk K F ok (l ++ m) (as ++ bs)
  | [], m, as, bs, h, h' => by
    have h : as = [] := h
    subst h; exact h'
  | (i, d) :: l, m, as, bs, h, h' => by
    obtain ⟨v, r, rfl, h1, h2, h3⟩ := h
    exact ⟨v, r ++ bs, rfl, h1, h2, h3.app h'⟩
def tGq (K : PySem.W.Frag) (U : AS) (ok : Nat → Bool) (t : Tg) : TG := fun v σ H Q => ∃ d l, flatT t d = some l ∧ Rp K (hide H U) d v ∧ ∀ as, AsOk K (hide H U) ok l as → Q (setV σ as) H
def tGsq (K : PySem.W.Frag) (U : AS) (ok : Nat → Bool) (t : Tg) : TGs := fun vs σ H Q => ∃ ds l, flatT t (.tup ds) = some l ∧ RpAll K (hide H U) ds vs ∧ ∀ as, AsOk K (hide H U) ok l as → Q (setV σ as) H
section
variable {T : Tb} {cls : Nat → Option Addr} {S : Sx} {X : Cx} {W : WX}
theorem each_cons {e : Expr} {es : List Expr} {env : PySem.Env} (h : ∀ x p, e ≠ .Starred x p) : assignEach (e :: es) env = (false, assign e env) :: assignEach es env := by
  cases e <;> first | rfl | exact absurd rfl (h _ _)
theorem chkTs_nostar {ok : Nat → Bool} : ∀ {t : Tg} {es : List Expr}, chkTs S ok t es = true → ∀ e ∈ es, ∀ x p, e ≠ .Starred x p
  | .nil, es, h => by
    cases es with
    | nil => simp
    | cons a b => simp [chkTs] at h
  | .cons t ts, es, h => by
    cases es with
    | nil => simp
    | cons e r =>
      simp only [chkTs, Bool.and_eq_true] at h
      intro x hx
      rcases List.mem_cons.mp hx with rfl | hx
      · intro y p z
        subst z
        cases t <;> simp [chkT] at h
      · exact chkTs_nostar h.2 x hx
  | .nm _, _, h | .tup _, _, h => by simp [chkTs] at h
theorem each_plain {env : PySem.Env} : ∀ {es : List Expr}, (∀ e ∈ es, ∀ x p, e ≠ .Starred x p) → (assignEach es env).length = es.length ∧ (assignEach es env).findIdx? (·.1) = none
  | [], _ => ⟨rfl, rfl⟩
  | e :: es, h => by
    rw [each_cons (h e (by simp))]
    obtain ⟨h1, h2⟩ := each_plain (env := env) (es := es) fun x hx => h x (by simp [hx])
    refine ⟨by simp [h1], ?_⟩
    simp [List.findIdx?_cons, h2]
theorem flat_len {ok : Nat → Bool} : ∀ {t : Tg} {es : List Expr} {ds : List D} {l : List (Nat × D)}, chkTs S ok t es = true → flatT t (.tup ds) = some l → ds.length = es.length
  | .nil, es, ds, l, h, e => by
    cases es with
    | cons a b => simp [chkTs] at h
    | nil =>
      cases ds with
      | nil => rfl
      | cons a b => simp [flatT] at e
  | .cons t ts, es, ds, l, h, e => by
    cases es with
    | nil => simp [chkTs] at h
    | cons a es =>
      cases ds with
      | nil => simp [flatT] at e
      | cons d ds =>
        simp only [chkTs, Bool.and_eq_true] at h
        simp only [flatT, Option.bind_eq_some_iff, Option.map_eq_some_iff] at e
        obtain ⟨l1, _, l2, e2, _⟩ := e
        simp [flat_len h.2 e2]
  | .nm _, _, _, _, h, _ | .tup _, _, _, _, h, _ => by simp [chkTs] at h
theorem pg_nm (g : Gd T cls S X W) {U : AS} {ok : Nat → Bool} {i : Nat} {x : Str} {pos : Pos} (h1 : atN S i x = true) (h2 : stoN S x = true) (h3 : ok i = true) : PG X (.Name x pos) (tGq X.K U ok (.nm i)) := by
  obtain ⟨hl, hf⟩ := g.sto h2
  refine PG.imp (pg_name g.nd (g.at h1) hl hf) fun v σ H Q h => ?_
  obtain ⟨d, l, e, p, k⟩ := h
  simp only [flatT, Option.some.injEq] at e
  subst e
  exact k [(i, v)] ⟨v, [], rfl, h3, p, rfl⟩
mutual
theorem pg_ok (g : Gd T cls S X W) (U : AS) {ok : Nat → Bool} : ∀ (t : Tg) {pe : Expr}, chkT S ok t pe = true → PG X pe (tGq X.K U ok t)
  | .nm i, pe, h => by
    simp only [chkT] at h
    split at h
    · simp only [Bool.and_eq_true] at h
      exact pg_nm g h.1.1 h.1.2 h.2
    · cases h
  | .tup t, pe, h => by
    simp only [chkT] at h
    split at h
    · rename_i es k pos
      have hs := chkTs_nostar h
      obtain ⟨h1, h2⟩ := each_plain (env := X.env) hs
      refine PG.imp (pg_tup g.calm (pgs_ok g U t h) h1 h2) fun v σ H Q q => ?_
      obtain ⟨d, l, e, p, kk⟩ := q
      cases d with
      | tup ds =>
        simp only [flatT] at e
        obtain ⟨a, vs, rfl, ea, pa⟩ := rp_tup p
        exact ⟨a, vs, rfl, SqT.of (hide_le _ _ _ _ ea), by rw [← pa.length]; exact flat_len h e, ds, l, e, pa, kk⟩
      | _ => simp [flatT] at e
    · cases h
  | .nil, _, h | .cons _ _, _, h => by simp [chkT] at h
theorem pgs_ok (g : Gd T cls S X W) (U : AS) {ok : Nat → Bool} : ∀ (t : Tg) {es : List Expr}, chkTs S ok t es = true → PGs X es (tGsq X.K U ok t)
  | .nil, es, h => by
    cases es with
    | cons a b => simp [chkTs] at h
    | nil =>
      refine PGs.imp pgs_nil fun v σ H Q q => ?_
      obtain ⟨ds, l, e, p, k⟩ := q
      cases ds with
      | cons a b => simp [flatT] at e
      | nil =>
        simp only [flatT, Option.some.injEq] at e
        subst e
        exact ⟨p.inv_nil, k [] rfl⟩
  | .cons t ts, es, h => by
    cases es with
    | nil => simp [chkTs] at h
    | cons e es =>
      have hs := chkTs_nostar h
      simp only [chkTs, Bool.and_eq_true] at h
      refine PGs.imp (pgs_cons (pg_ok g U t h.1) (pgs_ok g U ts h.2) (by rw [each_cons (hs e (by simp))]; rfl)) fun vs σ H Q q => ?_
      obtain ⟨ds, l, el, p, k⟩ := q
      cases ds with
      | nil => simp [flatT] at el
      | cons d ds =>
        simp only [flatT, Option.bind_eq_some_iff, Option.map_eq_some_iff] at el
        obtain ⟨l1, e1, l2, e2, rfl⟩ := el
        obtain ⟨v, r, rfl, q1, q2⟩ := p.inv_cons
        refine ⟨v, r, rfl, d, l1, e1, q1, fun as h1 => ⟨ds, l2, e2, q2, fun bs h2 => ?_⟩⟩
        rw [← setV_app]
        exact k _ (h1.app h2)
  | .nm _, _, h | .tup _, _, h => by simp [chkTs] at h
end
end

/-! what the stores leave -/
theorem setV_get : ∀ (as : List (Nat × V)) (σ : L2.St) (i : Nat), (∀ p ∈ as, p.1 ≠ i) → (setV σ as)[i]? = σ[i]?
  | [], σ, i, _ => rfl
  | (j, v) :: as, σ, i, h => by
    have := setV_get as (σ.set j (some v)) i fun p hp => h p (by simp [hp])
    rw [setV, this, List.getElem?_set_ne (h (j, v) (by simp))]
theorem setV_len : ∀ (as : List (Nat × V)) (σ : L2.St), (setV σ as).length = σ.length
  | [], σ => rfl
  | (j, v) :: as, σ => by rw [setV, setV_len as, List.length_set]
theorem RhoOk.set {K : PySem.W.Frag} {U : AS} {σ : L2.St} {H : Hp} {r : Rho} {i : Nat} {d : D} {v : V} (o : RhoOk K U σ H r) (p : Rp K (hide H U) d v) : RhoOk K U (σ.set i (some v)) H (r.set i (some d)) := ⟨by simp [o.1], fun j e h => by
  have hl := o.1
  by_cases hj : i = j
  · subst hj
    by_cases hi : i < r.length
    · rw [List.getElem?_set_self hi] at h
      cases h
      exact ⟨v, List.getElem?_set_self (by omega), p⟩
    · rw [List.getElem?_eq_none (by simpa using hi)] at h
      cases h
  · rw [List.getElem?_set_ne hj] at h ⊢
    exact o.2 j e h⟩
theorem RhoOk.sets {K : PySem.W.Frag} {U : AS} {H : Hp} {ok : Nat → Bool} : ∀ (l : List (Nat × D)) (as : List (Nat × V)) {σ : L2.St} {r : Rho}, RhoOk K U σ H r → AsOk K (hide H U) ok l as → RhoOk K U (setV σ as) H (setR r l)
  | [], as, σ, r, o, h => by
    have h : as = [] := h
    subst h; exact o
  | (i, d) :: l, as, σ, r, o, h => by
    obtain ⟨v, q, rfl, h1, h2, h3⟩ := h
    exact RhoOk.sets l q (o.set h2) h3
theorem wipe_set_in (σ : L2.St) (i : Nat) (x : Option V) : ∀ vs : List Nat, i ∈ vs → L2.wipe (σ.set i x) vs = L2.wipe σ vs
  | [], h => by simp at h
  | v :: vs, h => by
    unfold L2.wipe
    by_cases hi : i = v
    · subst hi
      by_cases hm : i ∈ vs
      · rw [wipe_set_in σ i x vs hm]
      · have : ∀ ws : List Nat, i ∉ ws → L2.wipe (σ.set i x) ws = (L2.wipe σ ws).set i x := by
          intro ws
          induction ws with
          | nil => intro _; rfl
          | cons w ws ih =>
            intro hn
            simp only [List.mem_cons, not_or] at hn
            unfold L2.wipe
            rw [ih hn.2, List.set_comm _ _ hn.1]
        rw [this vs hm, List.set_set]
    · rw [wipe_set_in σ i x vs (by simpa [hi] using h)]
theorem wipe_setV {K : PySem.W.Frag} {F : Hp} {vs : List Nat} : ∀ (l : List (Nat × D)) (as : List (Nat × V)) (σ : L2.St), AsOk K F (fun i => vs.contains i) l as → L2.wipe (setV σ as) vs = L2.wipe σ vs
  | [], as, σ, h => by
    have h : as = [] := h
    subst h; rfl
  | (i, d) :: l, as, σ, h => by
    obtain ⟨v, q, rfl, h1, h2, h3⟩ := h
    rw [setV, wipe_setV l q _ h3]
    exact wipe_set_in σ i _ vs (by simpa using h1)
theorem wipe_idem (σ : L2.St) : ∀ vs : List Nat, L2.wipe (L2.wipe σ vs) vs = L2.wipe σ vs := by
  intro vs
  have key : ∀ (ws : List Nat), (∀ w ∈ ws, w ∈ vs) → L2.wipe (L2.wipe σ ws) vs = L2.wipe σ vs := by
    intro ws
    induction ws with
    | nil => intro _; rfl
    | cons w ws ih =>
      intro h
      show L2.wipe ((L2.wipe σ ws).set w none) vs = _
      rw [wipe_set_in _ w none vs (h w (by simp)), ih fun x hx => h x (by simp [hx])]
  exact key vs fun _ h => h
theorem wipe_len : ∀ (r : Rho) (vs : List Nat), (wipe r vs).length = r.length
  | r, [] => rfl
  | r, v :: vs => by rw [wipe, List.length_set, wipe_len r vs]
theorem RhoOk.wipe {K : PySem.W.Frag} {U : AS} {σ : L2.St} {H : Hp} {r : Rho} (o : RhoOk K U σ H r) : ∀ vs : List Nat, RhoOk K U (L2.wipe σ vs) H (CS.wipe r vs)
  | [] => o
  | v :: vs => ⟨by simp only [CS.wipe, L2.wipe, List.length_set]; exact (RhoOk.wipe o vs).1, fun j e h => by
    have ih := RhoOk.wipe o vs
    simp only [CS.wipe] at h
    simp only [L2.wipe]
    by_cases hj : v = j
    · subst hj
      by_cases hi : v < (CS.wipe r vs).length
      · rw [List.getElem?_set_self hi] at h
        cases h
      · rw [List.getElem?_eq_none (by simpa using hi)] at h
        cases h
    · rw [List.getElem?_set_ne hj] at h ⊢
      exact ih.2 j e h⟩
end CS

/-! list(zip(a, b)): a zip whose tuples are kept by the caller -/
namespace CS
open PySem L2 PySem.Spec PyProof.Rows
/-- a zip whose own tuple is out, at T -/
abbrev ZipO (h : Heap) (z TI TO T : Addr) (f : Bool) : Prop :=
  h.get? z = some { cls := .type "zip", dict := none, data := .fields #[rawInt T, .bool f, .bool false, .ref TI, .ref TO], slots := #[] }
section
variable {prog : Program} {w : World} {A : Around} {E : Value → Shared → Prop} {s : Shared} {z TI TO i1 i2 T : Addr} {f : Bool} {fp1 fp2 : List Addr} {n1 n2 i : Nat} {P1 P2 : Nat → Value → Prop} {St1 St2 : Nat → Heap → Prop} {o0 : Obj}
/-- asked while its tuple is out -/
theorem zipO_free {Q : Bool → Shared → Prop} (hz : ZipO s.heap z TI TO T f) (hT : s.heap.get? T = some o0)
    (hQ : ∀ h', ZipO h' z TI TO T true → Heap.SameBut z s.heap h' → Q false { s with heap := h' }) : wpAny (model prog w) A (Builtin.SmallTypes.ownedTupleIsFree (.ref z)) Q E s := by
  obtain ⟨hp, g, d, tk0, os⟩ := s
  unfold Builtin.SmallTypes.ownedTupleIsFree
  refine wpAny_bind (wpAny_field hz rfl (x := rawInt T) rfl ?_)
  show wpAny _ _ (loadIfAlive ((T : Int).toNat) >>= _) _ _ _
  rw [Int.toNat_natCast]
  refine wpAny_bind (PySem.W.kdx_alive hT ?_)
  simp only [Option.isNone_some, Bool.false_eq_true, if_false]
  refine wpAny_bind (wpAny_field hz rfl (x := .bool f) rfl ?_)
  cases f with
  | true =>
    rw [if_neg (show ¬ ((Value.bool true != Value.bool true) = true) from Bool.false_ne_true)]
    exact wpAny_pure (hQ hp hz (Heap.SameBut.refl _ _))
  | false =>
    rw [if_pos (show (Value.bool false != Value.bool true) = true from rfl)]
    refine wpAny_bind (wpAny_setField_rec hz (by simp) fun h₃ he₃ hs₃ => ?_)
    exact wpAny_pure (hQ h₃ he₃ hs₃)
theorem zipO_next_item {Q : Value → Shared → Prop} (S : ZipSep2 z TI TO i1 i2 fp1 fp2) (D1 : Draws prog w A i1 fp1 n1 P1 St1) (D2 : Draws prog w A i2 fp2 n2 P2 St2)
    (hz : ZipO s.heap z TI TO T f) (hT : s.heap.get? T = some o0) (hTI : IsTupOf2 s.heap TI (.ref i1) (.ref i2)) (st1 : St1 i s.heap) (st2 : St2 i s.heap) (hlt1 : i < n1) (hlt2 : i < n2)
    (hQ : ∀ x1 x2 h' tk, P1 i x1 → P2 i x2 → ZipO h' z TI TO T true → St1 (i + 1) h' → St2 (i + 1) h' → IsTupOf2 h' s.heap.objs.size x1 x2 → h'.objs.size = s.heap.objs.size + 1 →
      (∀ c o, c ≠ z → c ≠ i1 → c ≠ i2 → s.heap.get? c = some o → h'.get? c = some o) → Q (.ref s.heap.objs.size) { s with heap := h', toks := tk }) :
    wpAny (model prog w) A (Builtin.«zip.__next__» ⟨[.ref z], []⟩) (fun fin s' => ∃ v, fin = .done (.ret v) ∧ Q v s') E s := by
  obtain ⟨hp, g, d, tk0, os⟩ := s
  show wpAny _ _ (field (.ref z) 2 >>= _) _ _ _
  refine wpAny_bind (wpAny_field hz rfl (x := .bool false) rfl ?_)
  show wpAny _ _ (field (.ref z) 3 >>= _) _ _ _
  refine wpAny_bind (wpAny_field hz rfl (x := .ref TI) rfl ?_)
  refine wpAny_bind (wpAny_seqItems hTI rfl ?_)
  show wpAny _ _ (Builtin.SmallTypes.ownedTupleIsFree (.ref z) >>= _) _ _ _
  refine wpAny_bind (zipO_free hz hT fun g0 hz0 hs0 => ?_)
  replace hs0 : Heap.SameBut z hp g0 := hs0
  simp only [Bool.false_eq_true, if_false]
  rw [← Array.forIn_toList]
  simp only [List.forIn_cons, List.forIn_nil]
  refine wpAny_bind (wpAny_bind (wpAny_bind (wpAny_holding ?_)))
  show wpAny _ _ (Builtin.SmallTypes.nextOf (.ref i1) >>= _) _ _ ⟨g0, g, d, tk0, os⟩
  refine wpAny_bind (D1.item i _ _ _ hlt1 (D1.over st1 hs0 S.zf1) fun x1 p1 tk1 hx1 sn1 hp1 => wpAny_pure (wpAny_pure ?_))
  replace hp1 : Heap.SameBut i1 g0 p1 := hp1
  refine wpAny_bind (wpAny_bind (wpAny_holding ?_))
  show wpAny _ _ (Builtin.SmallTypes.nextOf (.ref i2) >>= _) _ _ ⟨p1, g, d, tk1, os⟩
  refine wpAny_bind (D2.item i _ _ _ hlt2 (D2.over (D2.over st2 hs0 S.zf2) hp1 S.sep1_2) fun x2 p2 tk2 hx2 sn2 hp2 => wpAny_pure (wpAny_pure ?_))
  replace hp2 : Heap.SameBut i2 p1 p2 := hp2
  refine wpAny_pure ?_
  refine wpAny_bind (wpAny_newTuple ?_ (show 2 ≤ sizeLine by decide))
  have hsz : p2.objs.size = hp.objs.size := by rw [hp2.1, hp1.1, hs0.1]
  refine wpAny_pure ⟨_, rfl, ?_⟩
  show Q (.ref p2.objs.size) ⟨p2.push { cls := .type "tuple", data := .seq #[x1, x2] }, g, d, tk2, os⟩
  rw [hsz]
  have up : ∀ c o, p2.get? c = some o → (p2.push { cls := .type "tuple", data := .seq #[x1, x2] }).get? c = some o := fun c o e => Heap.get?_push_of_some _ e
  refine hQ x1 x2 _ tk2 hx1 hx2 (up _ _ (hp2.extBut _ _ S.zi2 (hp1.extBut _ _ S.zi1 hz0))) (D1.frame _ _ _ (D1.over sn1 hp2 S.sep2_1) fun b hb o e => up b o e) (D2.frame _ _ _ sn2 fun b hb o e => up b o e) ?_ ?_ fun c o cz c1 c2 e => up c o (hp2.extBut _ _ c2 (hp1.extBut _ _ c1 (hs0.extBut _ _ cz e)))
  · show (p2.push _).get? hp.objs.size = _
    rw [← hsz]
    exact Heap.get?_push_size _ rfl
  · show (p2.push _).objs.size = hp.objs.size + 1
    rw [Heap.size_push, hsz]
theorem zipO_next_end {Q : Fin → Shared → Prop} (S : ZipSep2 z TI TO i1 i2 fp1 fp2) (D1 : Draws prog w A i1 fp1 n1 P1 St1) (D2 : Draws prog w A i2 fp2 n2 P2 St2)
    (hz : ZipO s.heap z TI TO T f) (hT : s.heap.get? T = some o0) (hTI : IsTupOf2 s.heap TI (.ref i1) (.ref i2)) (st1 : St1 i s.heap) (st2 : St2 i s.heap) (hle1 : i ≤ n1) (hle2 : i ≤ n2) (hend : i = n1 ∨ i = n2)
    (hE : ∀ h' tk e, (∀ c o, c ≠ z → c ≠ i1 → c ≠ i2 → s.heap.get? c = some o → h'.get? c = some o) → (∃ o, h'.get? e = some o ∧ o.cls = .type "StopIteration") → E (.ref e) { s with heap := h', toks := tk }) :
    wpAny (model prog w) A (Builtin.«zip.__next__» ⟨[.ref z], []⟩) Q E s := by
  obtain ⟨hp, g, d, tk0, os⟩ := s
  show wpAny _ _ (field (.ref z) 2 >>= _) _ _ _
  refine wpAny_bind (wpAny_field hz rfl (x := .bool false) rfl ?_)
  show wpAny _ _ (field (.ref z) 3 >>= _) _ _ _
  refine wpAny_bind (wpAny_field hz rfl (x := .ref TI) rfl ?_)
  refine wpAny_bind (wpAny_seqItems hTI rfl ?_)
  show wpAny _ _ (Builtin.SmallTypes.ownedTupleIsFree (.ref z) >>= _) _ _ _
  refine wpAny_bind (zipO_free hz hT fun g0 hz0 hs0 => ?_)
  replace hs0 : Heap.SameBut z hp g0 := hs0
  simp only [Bool.false_eq_true, if_false]
  rw [← Array.forIn_toList]
  simp only [List.forIn_cons, List.forIn_nil]
  refine wpAny_bind (wpAny_bind (wpAny_bind (wpAny_holding ?_)))
  show wpAny _ _ (Builtin.SmallTypes.nextOf (.ref i1) >>= _) _ _ ⟨g0, g, d, tk0, os⟩
  by_cases hlt1 : i < n1
  · refine wpAny_bind (D1.item i _ _ _ hlt1 (D1.over st1 hs0 S.zf1) fun x1 p1 tk1 hx1 sn1 hp1 => wpAny_pure (wpAny_pure ?_))
    replace hp1 : Heap.SameBut i1 g0 p1 := hp1
    have hi2 : i = n2 := by omega
    refine wpAny_bind (wpAny_bind (wpAny_holding ?_))
    show wpAny _ _ (Builtin.SmallTypes.nextOf (.ref i2) >>= _) _ _ ⟨p1, g, d, tk1, os⟩
    refine wpAny_bind (D2.done ⟨p1, g, d, tk1, os⟩ _ _ (by rw [← hi2]; exact (D2.over (D2.over st2 hs0 S.zf2) hp1 S.sep1_2)) fun q e hq he => ?_)
    replace hq : Heap.ExtBut i2 p1 q := hq
    exact hE q tk1 e (fun c o cz c1 c2 x => hq _ _ c2 (hp1.extBut _ _ c1 (hs0.extBut _ _ cz x))) he
  · have hi1 : i = n1 := by omega
    refine wpAny_bind (D1.done ⟨g0, g, d, tk0, os⟩ _ _ (by rw [← hi1]; exact (D1.over st1 hs0 S.zf1)) fun q e hq he => ?_)
    replace hq : Heap.ExtBut i1 g0 q := hq
    exact hE q tk0 e (fun c o cz c1 c2 x => hq _ _ c1 (hs0.extBut _ _ cz x)) he
theorem pyNext_zipO_item {Q : Option Value → Shared → Prop} (S : ZipSep2 z TI TO i1 i2 fp1 fp2) (D1 : Draws prog w A.in1 i1 fp1 n1 P1 St1) (D2 : Draws prog w A.in1 i2 fp2 n2 P2 St2)
    (hz : ZipO s.heap z TI TO T f) (hT : s.heap.get? T = some o0) (hTI : IsTupOf2 s.heap TI (.ref i1) (.ref i2)) (st1 : St1 i s.heap) (st2 : St2 i s.heap) (hlt1 : i < n1) (hlt2 : i < n2)
    (hQ : ∀ x1 x2 h' tk, P1 i x1 → P2 i x2 → ZipO h' z TI TO T true → St1 (i + 1) h' → St2 (i + 1) h' → IsTupOf2 h' s.heap.objs.size x1 x2 → h'.objs.size = s.heap.objs.size + 1 →
      (∀ c o, c ≠ z → c ≠ i1 → c ≠ i2 → s.heap.get? c = some o → h'.get? c = some o) → Q (some (.ref s.heap.objs.size)) { s with heap := h', toks := tk }) :
    wpAny (model prog w) A (pyNext (.ref z)) Q E s := by
  have hTy : s.TypeIs (.ref z) "zip" := ⟨_, hz, rfl⟩
  unfold pyNext
  exact wpAny_bind (wpAny_attempt (wpAny_callSpecial?_slot (name := Str.ofString "__next__") hTy PySem.F.slot_zip_next
    (wpAny_call_entry PySem.F.slot_zip_next hTy PySem.F.entry_zip_next
      (zipO_next_item S D1 D2 hz hT hTI st1 st2 hlt1 hlt2 fun x1 x2 h' tk y1 y2 b1 d1 d2 b5 b6 b7 => wpAny_pure (hQ x1 x2 h' tk y1 y2 b1 d1 d2 b5 b6 b7)) (PySem.F.args_zip_next_1 _))))
theorem pyNext_zipO_end {Q : Option Value → Shared → Prop} (S : ZipSep2 z TI TO i1 i2 fp1 fp2) (D1 : Draws prog w A.in1 i1 fp1 n1 P1 St1) (D2 : Draws prog w A.in1 i2 fp2 n2 P2 St2)
    (hz : ZipO s.heap z TI TO T f) (hT : s.heap.get? T = some o0) (hTI : IsTupOf2 s.heap TI (.ref i1) (.ref i2)) (st1 : St1 i s.heap) (st2 : St2 i s.heap) (hle1 : i ≤ n1) (hle2 : i ≤ n2) (hend : i = n1 ∨ i = n2)
    (hQ : ∀ h' tk, (∀ c o, c ≠ z → c ≠ i1 → c ≠ i2 → s.heap.get? c = some o → h'.get? c = some o) → Q none { s with heap := h', toks := tk }) : wpAny (model prog w) A (pyNext (.ref z)) Q E s := by
  have hTy : s.TypeIs (.ref z) "zip" := ⟨_, hz, rfl⟩
  unfold pyNext
  refine wpAny_bind (wpAny_attempt (wpAny_callSpecial?_slot (name := Str.ofString "__next__") hTy PySem.F.slot_zip_next
    (wpAny_call_entry PySem.F.slot_zip_next hTy PySem.F.entry_zip_next (zipO_next_end S D1 D2 hz hT hTI st1 st2 hle1 hle2 hend fun h' tk e hk he => ?_) (PySem.F.args_zip_next_1 _))))
  obtain ⟨o, ho, hc⟩ := he
  refine wpAny_bind (wpAny_isInstance (T := "StopIteration") (b := true) ⟨o, ho, hc⟩ isSubtype_stop ?_)
  exact wpAny_pure (hQ _ _ hk)

structure ZG (P1 P2 : Nat → Value → Prop) (lo : Addr) (h : Heap) (as : List Addr) : Prop where
  rise : as.Pairwise (· < ·)
  above : ∀ a ∈ as, lo < a
  pairs : ∀ (j : Nat) (a : Addr), as[j]? = some a → ∃ x1 x2, P1 j x1 ∧ P2 j x2 ∧ IsTupOf2 h a x1 x2
theorem ZG.there {lo : Addr} {h : Heap} {as : List Addr} (g : ZG P1 P2 lo h as) {a : Addr} (ha : a ∈ as) : ∃ o, h.get? a = some o := by
  obtain ⟨j, hj⟩ := List.mem_iff_getElem?.mp ha
  obtain ⟨x1, x2, _, _, e⟩ := g.pairs j a hj
  exact ⟨_, e⟩
/-- before turn i -/
def ZSt (z TI TO : Addr) (h : Heap) (as : List Addr) : Prop := (as = [] ∧ IsZip h z TI TO .none ∧ ∃ a1 a2, IsTupOf2 h TO a1 a2) ∨ ∃ T f, T ∈ as ∧ ZipO h z TI TO T f
theorem zl_loop {R : Result → Shared → Prop} {L : Addr} (Sp : ZipSep2 z TI TO i1 i2 fp1 fp2) (D1 : Draws prog w A.in1.in1 i1 fp1 n1 P1 St1) (D2 : Draws prog w A.in1.in1 i2 fp2 n2 P2 St2) (hL1 : L ∉ fp1) (hL2 : L ∉ fp2) (hz : z < L) (hTO : TO < L) (hTI : TI < L) (hi1 : i1 < L) (hi2 : i2 < L)
    (hn : min n1 n2 ≤ sizeLine) (res : Value) {h₁ : Heap}
    (hR : ∀ h' tk acc c as, (∀ b o, b ≠ L → b ≠ z → b ≠ TO → b ≠ i1 → b ≠ i2 → h₁.get? b = some o → h'.get? b = some o) → h'.get? L = some { cls := .type "list", dict := none, data := .seq acc c, slots := #[] } → as.length = min n1 n2 → ZG P1 P2 L h' as →
      acc.toList = as.map Value.ref → R (.ok (.ret res)) { s with heap := h', toks := tk }) :
    ∀ (k i : Nat) (h : Heap) (tk c : Nat) (acc : Array Value) (as : List Addr), min n1 n2 - i = k → i ≤ min n1 n2 → ZSt z TI TO h as → IsTupOf2 h TI (.ref i1) (.ref i2) → St1 i h → St2 i h → (∀ b o, b ≠ L → b ≠ z → b ≠ TO → b ≠ i1 → b ≠ i2 → h₁.get? b = some o → h.get? b = some o) →
      h.get? L = some { cls := .type "list", dict := none, data := .seq acc c, slots := #[] } → acc.toList = as.map Value.ref → as.length = i → ZG P1 P2 L h as →
      codeAny (model prog w) A (.builtin "list.extend.loop" ⟨[.ref L, .ref z, res], []⟩) R { s with heap := h, toks := tk } := by
  intro k
  induction k with
  | zero =>
    intro i h tk c acc as hk hi hst hti st1 st2 hkeep hS hacc hal hG
    have hin : i = min n1 n2 := by omega
    have hend : i = n1 ∨ i = n2 := by omega
    refine codeAny_builtin PySem.F.entry_extend_loop ?_
    rw [Around.under_plainId PySem.F.plain_extend_loop _]
    show wpAny _ A.in1 (pyNext (.ref z) >>= _) _ _ _
    have fin : ∀ h' tk', (∀ b o, b ≠ z → b ≠ TO → b ≠ i1 → b ≠ i2 → h.get? b = some o → h'.get? b = some o) → R (.ok (.ret res)) { s with heap := h', toks := tk' } := fun h' tk' he =>
      hR h' tk' acc c as (fun b o hL q1 q2 q3 q4 e => he b o q1 q2 q3 q4 (hkeep b o hL q1 q2 q3 q4 e)) (he L _ (Nat.ne_of_gt hz) (Nat.ne_of_gt hTO) (Nat.ne_of_gt hi1) (Nat.ne_of_gt hi2) hS) (by omega) ⟨hG.rise, hG.above, fun j a hj => by
        obtain ⟨x1, x2, e1, e2, e3⟩ := hG.pairs j a hj
        have := hG.above a (List.mem_of_getElem? hj)
        exact ⟨x1, x2, e1, e2, he a _ (Nat.ne_of_gt (Nat.lt_trans hz this)) (Nat.ne_of_gt (Nat.lt_trans hTO this)) (Nat.ne_of_gt (Nat.lt_trans hi1 this)) (Nat.ne_of_gt (Nat.lt_trans hi2 this)) e3⟩⟩ hacc
    rcases hst with ⟨_, hzz, a1, a2, ht⟩ | ⟨T, f, hT, hzo⟩
    · exact wpAny_bind (wpAny_pyNext_zipD2_end (s := { s with heap := h, toks := tk }) (A := A.in1) Sp D1 D2 hzz hti ht st1 st2 (by omega) (by omega) hend fun h' tk' he => wpAny_pure (fin h' tk' he))
    · obtain ⟨o0, ho⟩ := hG.there hT
      exact wpAny_bind (pyNext_zipO_end (s := { s with heap := h, toks := tk }) (A := A.in1) Sp D1 D2 hzo ho hti st1 st2 (by omega) (by omega) hend fun h' tk' he => wpAny_pure (fin h' tk' fun b o q1 _ q3 q4 e => he b o q1 q3 q4 e))
  | succ k ih =>
    intro i h tk c acc as hk hi hst hti st1 st2 hkeep hS hacc hal hG
    have hlt1 : i < n1 := by omega
    have hlt2 : i < n2 := by omega
    have hsz : acc.size = i := by rw [← Array.length_toList, hacc, List.length_map, hal]
    refine codeAny_builtin PySem.F.entry_extend_loop ?_
    rw [Around.under_plainId PySem.F.plain_extend_loop _]
    show wpAny _ A.in1 (pyNext (.ref z) >>= _) _ _ _
    have hSl : L < h.objs.size := Heap.lt_size hS
    have step : ∀ x1 x2 h' tk', P1 i x1 → P2 i x2 → ZSt z TI TO h' (as ++ [h.objs.size]) → St1 (i + 1) h' → St2 (i + 1) h' → IsTupOf2 h' h.objs.size x1 x2 → (∀ b o, b ≠ z → b ≠ TO → b ≠ i1 → b ≠ i2 → h.get? b = some o → h'.get? b = some o) →
        wpAny (model prog w) A.in1 (do updateSeq L (·.push (Value.ref h.objs.size)); again (.builtin "list.extend.loop" ⟨[.ref L, .ref z, res], []⟩)) (fun fin s' => match fin with | .done f => R (.ok f) s' | .again c' => c'.quiet = true ∧ codeAny (model prog w) A c' R s') (fun e s' => R (.error e) s') { s with heap := h', toks := tk' } := fun x1 x2 h' tk' y1 y2 zs sn1 sn2 htup he => by
      have hS' := he L _ (Nat.ne_of_gt hz) (Nat.ne_of_gt hTO) (Nat.ne_of_gt hi1) (Nat.ne_of_gt hi2) hS
      have up : ∀ b o, b ≠ L → h'.get? b = some o → (h'.update L (Obj.mapSeq (·.push (Value.ref h.objs.size)))).get? b = some o := fun b o hb e => (Heap.get?_update_other _ _ (Ne.symm hb)).trans e
      have zs' : ZSt z TI TO (h'.update L (Obj.mapSeq (·.push (Value.ref h.objs.size)))) (as ++ [h.objs.size]) := by
        rcases zs with ⟨q, _⟩ | ⟨T, f, hT, q⟩
        · simp at q
        · exact .inr ⟨T, f, hT, up _ _ (Nat.ne_of_lt hz) q⟩
      refine wpAny_bind (wpAny_updateSeq hS' rfl (wpAny_pure ⟨plainId_quiet PySem.F.plain_extend_loop _, ih (i + 1) _ tk' _ (acc.push (Value.ref h.objs.size)) (as ++ [h.objs.size]) (by omega) (by omega) zs' (up _ _ (Nat.ne_of_lt hTI) (he _ _ Sp.TIz Sp.TITO Sp.TIi1 Sp.TIi2 hti)) (D1.frame _ _ _ sn1 fun b hb o e => up b o (fun q => hL1 (q ▸ hb)) e) (D2.frame _ _ _ sn2 fun b hb o e => up b o (fun q => hL2 (q ▸ hb)) e)
        (fun b o hL q1 q2 q3 q4 e => up b o hL (he b o q1 q2 q3 q4 (hkeep b o hL q1 q2 q3 q4 e))) (Heap.get?_update_self _ hS' rfl) (by rw [Array.toList_push, hacc, List.map_append]; rfl) (by rw [List.length_append, hal]; rfl) ⟨?_, ?_, ?_⟩⟩) (by rw [hsz]; omega) (by show (acc.push (Value.ref h.objs.size)).size ≤ sizeLine + 1; rw [Array.size_push, hsz]; omega))
      · refine List.pairwise_append.mpr ⟨hG.rise, List.pairwise_singleton _ _, fun a ha b hb => ?_⟩
        rw [List.mem_singleton.mp hb]
        obtain ⟨o, ho⟩ := hG.there ha
        exact Heap.lt_size ho
      · intro a ha
        rcases List.mem_append.mp ha with ha | ha
        · exact hG.above a ha
        · rw [List.mem_singleton.mp ha]; exact hSl
      · intro j b hj
        rcases Nat.lt_trichotomy j as.length with q1 | q1 | q1
        · rw [List.getElem?_append_left q1] at hj
          obtain ⟨x1', x2', e1, e2, e3⟩ := hG.pairs j b hj
          have hb := hG.above b (List.mem_of_getElem? hj)
          exact ⟨x1', x2', e1, e2, up b _ (Nat.ne_of_gt hb) (he b _ (Nat.ne_of_gt (Nat.lt_trans hz hb)) (Nat.ne_of_gt (Nat.lt_trans hTO hb)) (Nat.ne_of_gt (Nat.lt_trans hi1 hb)) (Nat.ne_of_gt (Nat.lt_trans hi2 hb)) e3)⟩
        · subst q1
          have hb : h.objs.size = b := by simpa using hj
          subst hb
          exact ⟨x1, x2, by rw [hal]; exact y1, by rw [hal]; exact y2, up _ _ (Nat.ne_of_gt hSl) htup⟩
        · have hnone : (as ++ [h.objs.size])[j]? = none := List.getElem?_eq_none (by rw [List.length_append, List.length_singleton]; omega)
          rw [hnone] at hj; cases hj
    rcases hst with ⟨_, hzz, a1, a2, ht⟩ | ⟨T, f, hT, hzo⟩
    · refine wpAny_bind (wpAny_pyNext_zipD2_item (s := { s with heap := h, toks := tk }) (A := A.in1) Sp D1 D2 hzz hti ht st1 st2 hlt1 hlt2 fun x1 x2 h' tk' y1 y2 b1 b2 d1 d2 b5 b6 b7 => ?_)
      exact step x1 x2 h' tk' y1 y2 (.inr ⟨h.objs.size, false, by simp, b1⟩) d1 d2 b5 b7
    · obtain ⟨o0, ho⟩ := hG.there hT
      refine wpAny_bind (pyNext_zipO_item (s := { s with heap := h, toks := tk }) (A := A.in1) Sp D1 D2 hzo ho hti st1 st2 hlt1 hlt2 fun x1 x2 h' tk' y1 y2 b1 d1 d2 b5 b6 b7 => ?_)
      exact step x1 x2 h' tk' y1 y2 (.inr ⟨T, true, by simp [hT], b1⟩) d1 d2 b5 fun b o q1 _ q3 q4 e => b7 b o q1 q3 q4 e

theorem zip_len : typeLookup (.type "zip") "__len__" = pure none := by rw [typeLookup_type, builtinLookup_eq_fast]; kernel_rfl
theorem zip_hint0 : typeLookup (.type "zip") "__length_hint__" = pure none := by rw [typeLookup_type, builtinLookup_eq_fast]; kernel_rfl
theorem zip_hint (hT : s.TypeIs (.ref z) "zip") {Q : Bool → Shared → Prop} (h : Q true s) : wpAny (model prog w) A (Builtin.List.listLengthHint (.ref z)) Q E s := by
  unfold Builtin.List.listLengthHint
  refine wpAny_bind (wpAny_specialOf hT zip_len ?_)
  refine wpAny_ite_split (fun hab => absurd hab (by decide)) (fun _ => ?_)
  refine wpAny_ite_split (fun hab => absurd hab (by decide)) (fun _ => ?_)
  refine wpAny_bind (wpAny_specialOf hT zip_hint0 ?_)
  exact wpAny_pure h
theorem zl_extend {R : Result → Shared → Prop} {L : Addr} {a1 a2 : Value} (hh : A.handled = none) (Sp : ZipSep2 z TI TO i1 i2 fp1 fp2) (D1 : ∀ B : Around, B.handled = none → Draws prog w B i1 fp1 n1 P1 St1) (D2 : ∀ B : Around, B.handled = none → Draws prog w B i2 fp2 n2 P2 St2)
    (hL1 : L ∉ fp1) (hL2 : L ∉ fp2) (hzL : z < L) (hTOL : TO < L) (hTIL : TI < L) (hi1L : i1 < L) (hi2L : i2 < L)
    (hz : IsZip s.heap z TI TO .none) (hti : IsTupOf2 s.heap TI (.ref i1) (.ref i2)) (hto : IsTupOf2 s.heap TO a1 a2) (st1 : St1 0 s.heap) (st2 : St2 0 s.heap) (hn : min n1 n2 ≤ sizeLine) (res : Value) (c₀ : Nat) (hS : s.heap.get? L = some { cls := .type "list", data := .seq #[] c₀ })
    (hR : ∀ h' tk acc c as, (∀ b o, b ≠ L → b ≠ z → b ≠ TO → b ≠ i1 → b ≠ i2 → s.heap.get? b = some o → h'.get? b = some o) → h'.get? L = some { cls := .type "list", dict := none, data := .seq acc c, slots := #[] } → as.length = min n1 n2 → ZG P1 P2 L h' as →
      acc.toList = as.map Value.ref → R (.ok (.ret res)) { s with heap := h', toks := tk }) :
    wpAny (model prog w) A.in1 (Builtin.List.listExtendWith (.ref L) (.ref z) res)
      (fun fin s' => match fin with | .done f => R (.ok f) s' | .again c' => c'.quiet = true ∧ codeAny (model prog w) A c' R s') (fun e s' => R (.error e) s') s := by
  have hTy : s.TypeIs (.ref z) "zip" := ⟨_, hz, rfl⟩
  unfold Builtin.List.listExtendWith
  refine wpAny_bind (wpAny_typeOf (T := "zip") hTy ?_)
  have h1 : Builtin.List.listSameRef (.ref L) (.ref z) = false := by
    have : L ≠ z := Nat.ne_of_gt hzL
    simp [Builtin.List.listSameRef, this]
  have h2 : (Value.type "zip" == Value.type "list") = false := by decide
  have h3 : (Value.type "zip" == Value.type "tuple") = false := by decide
  simp only [h1, h2, h3, Bool.or_false, Bool.false_eq_true, if_false]
  refine wpAny_bind (wpAny_pyIter_zip hz ?_)
  refine wpAny_bind (wpAny_holding (zip_hint hTy ?_))
  refine wpAny_ite_split (fun _ => ?_) (fun hab => absurd (by simp) hab)
  refine wpAny_bind (wpAny_rule ?_)
  refine wpAny_bind ?_
  show wpAny _ _ (updateSeq L (·.push .none) >>= fun _ => updateSeq L (·.pop)) _ _ _
  refine wpAny_bind (wpAny_updateSeq hS rfl ?_)
  have hS₂ := Heap.get?_update_self (Obj.mapSeq (·.push Value.none)) hS rfl
  refine wpAny_updateSeq (hz := by seq_fits) hS₂ rfl ?_
  have hS₃ := Heap.get?_update_self (Obj.mapSeq (·.pop)) hS₂ rfl
  have up : ∀ b o, b ≠ L → s.heap.get? b = some o → ((s.heap.update L (Obj.mapSeq (·.push Value.none))).update L (Obj.mapSeq (·.pop))).get? b = some o := fun b o hb e =>
    (Heap.get?_update_other _ _ (Ne.symm hb)).trans ((Heap.get?_update_other _ _ (Ne.symm hb)).trans e)
  refine wpAny_pure ⟨plainId_quiet PySem.F.plain_extend_loop _, ?_⟩
  exact zl_loop (s := s) (h₁ := s.heap) Sp (D1 _ hh) (D2 _ hh) hL1 hL2 hzL hTOL hTIL hi1L hi2L hn res hR (min n1 n2) 0 _ s.toks _ #[] [] (Nat.sub_zero _) (Nat.zero_le _) (.inl ⟨rfl, up _ _ (Nat.ne_of_lt hzL) hz, a1, a2, up _ _ (Nat.ne_of_lt hTOL) hto⟩) (up _ _ (Nat.ne_of_lt hTIL) hti)
    ((D1 _ hh).frame _ _ _ st1 fun b hb o e => up b o (fun q => hL1 (q ▸ hb)) e) ((D2 _ hh).frame _ _ _ st2 fun b hb o e => up b o (fun q => hL2 (q ▸ hb)) e) (fun b o hb _ _ _ _ e => up b o hb e) hS₃ rfl rfl ⟨List.Pairwise.nil, (fun _ ha => nomatch ha), (fun j a hj => by simp at hj)⟩
theorem zl_init {R : Result → Shared → Prop} {L : Addr} {a1 a2 : Value} (hh : A.handled = none) (Sp : ZipSep2 z TI TO i1 i2 fp1 fp2) (D1 : ∀ B : Around, B.handled = none → Draws prog w B i1 fp1 n1 P1 St1) (D2 : ∀ B : Around, B.handled = none → Draws prog w B i2 fp2 n2 P2 St2)
    (hL1 : L ∉ fp1) (hL2 : L ∉ fp2) (hzL : z < L) (hTOL : TO < L) (hTIL : TI < L) (hi1L : i1 < L) (hi2L : i2 < L)
    (hz : IsZip s.heap z TI TO .none) (hti : IsTupOf2 s.heap TI (.ref i1) (.ref i2)) (hto : IsTupOf2 s.heap TO a1 a2) (st1 : St1 0 s.heap) (st2 : St2 0 s.heap) (hn : min n1 n2 ≤ sizeLine) (hS : s.heap.get? L = some { cls := .type "list", data := .seq #[] })
    (hR : ∀ h' tk acc c as, (∀ b o, b ≠ L → b ≠ z → b ≠ TO → b ≠ i1 → b ≠ i2 → s.heap.get? b = some o → h'.get? b = some o) → h'.get? L = some { cls := .type "list", dict := none, data := .seq acc c, slots := #[] } → as.length = min n1 n2 → ZG P1 P2 L h' as →
      acc.toList = as.map Value.ref → R (.ok (.ret .none)) { s with heap := h', toks := tk }) :
    wpAny (model prog w) A.in1 (Builtin.«list.__init__» ⟨[.ref L, .ref z], []⟩)
      (fun fin s' => match fin with | .done f => R (.ok f) s' | .again c' => c'.quiet = true ∧ codeAny (model prog w) A c' R s') (fun e s' => R (.error e) s') s := by
  show wpAny _ _ (do let old ← Builtin.List.listItems (.ref L); Builtin.List.listUpdate (.ref L) (fun _ => #[]); letGo old.toList.reverse; Builtin.List.listExtendWith (.ref L) (.ref z) .none) _ _ s
  refine wpAny_bind ?_
  unfold Builtin.List.listItems
  refine wpAny_bind (wpAny_seqItems hS rfl (wpAny_pure ?_))
  show wpAny _ _ (updateSeq L (fun _ => #[]) >>= fun _ => letGo (#[] : Array Value).toList.reverse >>= fun _ => Builtin.List.listExtendWith (.ref L) (.ref z) .none) _ _ s
  refine wpAny_bind (wpAny_updateSeq hS rfl ?_)
  have hS₂ := Heap.get?_update_self (Obj.mapSeq (fun _ => (#[] : Array Value))) hS rfl
  have oth : ∀ b o, b ≠ L → s.heap.get? b = some o → (s.heap.update L (Obj.mapSeq (fun _ => (#[] : Array Value)))).get? b = some o :=
    fun b o hb e => (Heap.get?_update_other _ _ (Ne.symm hb)).trans e
  refine wpAny_bind (wpAny_letGo ?_)
  refine zl_extend hh Sp D1 D2 hL1 hL2 hzL hTOL hTIL hi1L hi2L (oth _ _ (Nat.ne_of_lt hzL) hz) (oth _ _ (Nat.ne_of_lt hTIL) hti) (oth _ _ (Nat.ne_of_lt hTOL) hto) ((D1 _ hh).frame _ _ _ st1 fun b hb o e => oth b o (fun q => hL1 (q ▸ hb)) e) ((D2 _ hh).frame _ _ _ st2 fun b hb o e => oth b o (fun q => hL2 (q ▸ hb)) e) hn .none _ hS₂ fun h' tk acc c as hk hS' hl hG hacc => ?_
  exact hR h' tk acc c as (fun b o hb q1 q2 q3 q4 e => hk b o hb q1 q2 q3 q4 (oth b o hb e)) hS' hl hG hacc
theorem zl_call {Q : Value → Shared → Prop} {a1 a2 : Value} (hh : A.handled = none) (Sp : ZipSep2 z TI TO i1 i2 fp1 fp2) (D1 : ∀ B : Around, B.handled = none → Draws prog w B i1 fp1 n1 P1 St1) (D2 : ∀ B : Around, B.handled = none → Draws prog w B i2 fp2 n2 P2 St2)
    (hf1 : ∀ b ∈ fp1, b < s.heap.objs.size) (hf2 : ∀ b ∈ fp2, b < s.heap.objs.size)
    (hz : IsZip s.heap z TI TO .none) (hti : IsTupOf2 s.heap TI (.ref i1) (.ref i2)) (hto : IsTupOf2 s.heap TO a1 a2) (st1 : St1 0 s.heap) (st2 : St2 0 s.heap) (hn : min n1 n2 ≤ sizeLine)
    (hQ : ∀ h' tk acc c as, (∀ b o, b ≠ z → b ≠ TO → b ≠ i1 → b ≠ i2 → s.heap.get? b = some o → h'.get? b = some o) → h'.get? s.heap.objs.size = some { cls := .type "list", dict := none, data := .seq acc c, slots := #[] } → as.length = min n1 n2 → ZG P1 P2 s.heap.objs.size h' as →
      acc.toList = as.map Value.ref → Q (.ref s.heap.objs.size) { s with heap := h', toks := tk }) :
    wpAny (model prog w) A (call (.type "list") [.ref z]) Q E s := by
  refine callType_codes (Q₁ := fun obj s₁ => obj = .ref s.heap.objs.size ∧ s₁ = { s with heap := s.heap.push { cls := .type "list", data := .seq #[] } }) PySem.F.called_list (PySem.F.typeCall_list_1 _) PySem.F.entry_list_init
    (code_list_new _ ⟨rfl, rfl⟩) fun obj s₁ h₁ => ?_
  obtain ⟨rfl, rfl⟩ := h₁
  have hS : (s.heap.push { cls := .type "list", data := .seq #[] }).get? s.heap.objs.size = some { cls := .type "list", data := .seq #[] } := Heap.get?_push_size _ rfl
  have up : ∀ b o, s.heap.get? b = some o → (s.heap.push { cls := .type "list", data := .seq #[] }).get? b = some o := fun b o e => Heap.get?_push_of_some _ e
  have hi1 : i1 < s.heap.objs.size := hf1 _ Sp.mem1
  have hi2 : i2 < s.heap.objs.size := hf2 _ Sp.mem2
  refine ⟨⟨_, hS, rfl⟩, PySem.F.args_list_init_2 _ _, zl_init (A := A.in1) hh Sp D1 D2 (fun q => Nat.lt_irrefl _ (hf1 _ q)) (fun q => Nat.lt_irrefl _ (hf2 _ q)) (Heap.lt_size hz) (Heap.lt_size hto) (Heap.lt_size hti) hi1 hi2 (up _ _ hz) (up _ _ hti) (up _ _ hto) ((D1 _ hh).frame _ _ _ st1 fun b hb o e => up b o e) ((D2 _ hh).frame _ _ _ st2 fun b hb o e => up b o e) hn hS fun h' tk acc c as hk hS' hl hG hacc => ?_⟩
  exact ⟨rfl, hQ h' tk acc c as (fun b o q1 q2 q3 q4 e => hk b o (Nat.ne_of_lt (Heap.lt_size e)) q1 q2 q3 q4 (up b o e)) hS' hl hG hacc⟩
end
end CS

/-! list(zip(a, b)), the rule -/
namespace CS
open PySem L2 PySem.Spec PyProof.Rows
def putP : Hp → List Addr → List (V × V) → Hp
  | H, a :: as, p :: ps => putP (upd H a (.tup [p.1, p.2])) as ps
  | H, _, _ => H
theorem putP_off {b : Addr} : ∀ (as : List Addr) (ps : List (V × V)) (H : Hp), b ∉ as → putP H as ps b = H b
  | [], _, _, _ => rfl
  | _ :: _, [], _, _ => rfl
  | a :: as, p :: ps, H, h => by
    show putP (upd H a (.tup [p.1, p.2])) as ps b = H b
    rw [putP_off as ps _ (fun z => h (List.mem_cons_of_mem _ z)), upd_ne (fun z => h (by rw [z]; exact List.mem_cons_self))]
theorem putP_at : ∀ (as : List Addr) (ps : List (V × V)) (H : Hp), as.length = ps.length → as.Nodup → Paired (fun (t : Addr) (p : V × V) => putP H as ps t = some (.tup [p.1, p.2])) as ps
  | [], [], _, _, _ => .nil
  | [], _ :: _, _, h, _ => by cases h
  | _ :: _, [], _, h, _ => by cases h
  | a :: as, p :: ps, H, h, hn => by
    have hn' := List.nodup_cons.mp hn
    have ih := putP_at as ps (upd H a (.tup [p.1, p.2])) (Nat.succ.inj h) hn'.2
    refine .cons ?_ ih
    show putP (upd H a (.tup [p.1, p.2])) as ps a = some (.tup [p.1, p.2])
    rw [putP_off as ps _ hn'.1, upd_same]
section
variable {X : Cx}
/-- a new list of new pairs, taken into the abstract heap at once -/
theorem pairs_laid {pins : List (Addr × Obj)} {σ : L2.St} {H : Hp} {s : Shared} {h' : Heap} {tk : Nat} {ps : List (V × V)} {acc : Array Value} {c : Nat} {as : List Addr} {L : Addr} (I : Inv X pins σ H s) (hz : ps.length ≤ sizeLine)
    (hk : ∀ b o, s.heap.get? b = some o → h'.get? b = some o) (hL : s.heap.objs.size ≤ L) (hS : h'.get? L = some { cls := .type "list", dict := none, data := .seq acc c, slots := #[] }) (hl : as.length = ps.length) (rise : as.Pairwise (· < ·)) (above : ∀ a ∈ as, L < a)
    (prs : ∀ (j : Nat) (a : Addr) (p : V × V), as[j]? = some a → ps[j]? = some p → ∃ x1 x2, RelV p.1 x1 ∧ RelV p.2 x2 ∧ IsTupOf2 h' a x1 x2) (hacc : acc.toList = as.map Value.ref) :
    ∃ H' : Hp, Same H H' ∧ H L = none ∧ (∀ t ∈ as, H t = none) ∧ L ∉ as ∧ as.Nodup ∧ H' L = some (.lst (as.map V.ref)) ∧ Paired (fun (t : Addr) (p : V × V) => H' t = some (.tup [p.1, p.2])) as ps ∧ Inv X pins σ H' { s with heap := h', toks := tk } := by
  have hSn : L ∉ as := fun z => Nat.lt_irrefl _ (above _ z)
  have nd : as.Nodup := List.Pairwise.imp (fun {a b} (h : a < b) => Nat.ne_of_lt h) rise
  have new : ∀ t ∈ as, H t = none := fun t ht => I.hok.fresh (Nat.le_trans hL (Nat.le_of_lt (above t ht)))
  have newS : H L = none := I.hok.fresh hL
  have atP := putP_at as ps (upd H L (.lst (as.map V.ref))) hl nd
  have off : ∀ b, b ∉ as → b ≠ L → putP (upd H L (.lst (as.map V.ref))) as ps b = H b := fun b h1 h2 => by rw [putP_off as ps _ h1, upd_ne h2]
  have low : ∀ b o, s.heap.get? b = some o → b ∉ as ∧ b ≠ L := fun b o e => ⟨fun z => absurd (Nat.lt_of_lt_of_le (Heap.lt_size e) hL) (Nat.not_lt.mpr (Nat.le_of_lt (above b z))), Nat.ne_of_lt (Nat.lt_of_lt_of_le (Heap.lt_size e) hL)⟩
  have kp : ∀ b u, H b = some u → (putP (upd H L (.lst (as.map V.ref))) as ps) b = some u := fun b u e => by
    rw [off b (fun z => by rw [new b z] at e; cases e) (fun z => by rw [z, newS] at e; cases e)]
    exact e
  have eS : putP (upd H L (.lst (as.map V.ref))) as ps L = some (.lst (as.map V.ref)) := by rw [putP_off as ps _ hSn, upd_same]
  refine ⟨putP (upd H L (.lst (as.map V.ref))) as ps, kp, newS, new, hSn, nd, eS, atP, ?_⟩
  refine I.call' (ch := []) rfl ⟨fun b o q _ _ _ => hk b o q, fun b o q _ _ _ => ⟨o.slots, hk b o q⟩, fun b o q n _ => ?_, fun b o q _ => ⟨o, hk b o q⟩, fun b xs q => kp b _ q, fun b o u q => kp b _ q, fun b ps q => ⟨#[], by rw [kp b _ q]; simp⟩⟩ (fun b u q => ?_) I.bare fun b z => by simp at z
  · obtain ⟨z1, z2⟩ := low b o q
    rw [off b z1 z2]
    exact n
  · by_cases hb : b ∈ as
    · obtain ⟨j, pk, e1, e2, e3⟩ := LiI.paired_ix atP hb
      rw [e3] at q
      cases q
      obtain ⟨x1, x2, f1, f2, f3⟩ := prs j b pk e1 e2
      exact ⟨by show 2 ≤ sizeLine; decide, [x1, x2], .cons f1 (.cons f2 .nil), ⟨_, f3, rfl, _, rfl⟩⟩
    · by_cases hb2 : b = L
      · rw [hb2] at q ⊢
        rw [eS] at q
        cases q
        refine ⟨by rw [List.length_map]; omega, acc.toList, c, by rw [hacc]; exact LiI.vals_refs as, ?_⟩
        rw [Array.toArray_toList]
        exact hS
      · rw [off b hb hb2] at q
        exact (I.hok b u q).stay (fun d v _ y => hk d v y) (fun d y => kp d _ y) fun d xs y => kp d _ y

theorem draws_ofB {pins : List (Addr × Obj)} {σ : L2.St} {H : Hp} {s : Shared} (I : Inv X pins σ H s) {k : Bool} {a it : Addr} {xs : List V} (hq : SqX X.K H k a xs) (hne : a ≠ it) :
    ∃ (its : List Value) (St : Nat → Heap → Prop), Vals xs its ∧ (∀ B : Around, B.handled = none → Draws X.prog X.w B it [it, a] its.length (fun i v => its[i]? = some v) St) ∧ ∀ h', (∀ b o, s.heap.get? b = some o → h'.get? b = some o) → ItX h' k it a 0 → St 0 h' := by
  cases k with
  | true =>
    obtain ⟨its, rv, p, _⟩ := I.list hq
    refine ⟨its, fun i h => h.IsListIter it a i ∧ h.IsList a its.toArray, rv, fun B hh => ?_, fun h' hk hit => ⟨hit, ?_⟩⟩
    · have := Draws.list (prog := X.prog) (w := X.w) (A := B) hh it a hne its.toArray
      simpa using this
    · obtain ⟨o, e, r⟩ := p.isList
      exact ⟨o, hk _ _ e, r⟩
  | false =>
    obtain ⟨its, rv, p, _⟩ := I.tuple hq
    refine ⟨its, fun i h => h.IsTupleIter it a i ∧ h.IsTuple a its.toArray, rv, fun B hh => ?_, fun h' hk hit => ⟨hit, ?_⟩⟩
    · have := Draws.tuple (prog := X.prog) (w := X.w) (A := B) hh it a hne its.toArray
      simpa using this
    · obtain ⟨o, e, r⟩ := p
      exact ⟨o, hk _ _ e, r⟩
def zipV : List V → List V → List (V × V)
  | x :: xs, y :: ys => (x, y) :: zipV xs ys
  | _, _ => []
theorem zipV_length : ∀ xs ys : List V, (zipV xs ys).length = min xs.length ys.length
  | [], _ => by simp [zipV]
  | _ :: _, [] => by simp [zipV]
  | a :: xs, b :: ys => by simp only [zipV, List.length_cons, zipV_length xs ys]; omega
theorem zipV_get : ∀ (xs ys : List V) (j : Nat) (p : V × V), (zipV xs ys)[j]? = some p → xs[j]? = some p.1 ∧ ys[j]? = some p.2
  | [], _, _, _, h => by simp [zipV] at h
  | _ :: _, [], _, _, h => by simp [zipV] at h
  | a :: xs, b :: ys, 0, p, h => by simp [zipV] at h; subst h; simp
  | a :: xs, b :: ys, j + 1, p, h => by
    simp only [zipV, List.getElem?_cons_succ] at h ⊢
    exact zipV_get xs ys j p h
def tLz (K : PySem.W.Frag) (ta : TA) : TE := fun σ H Q => ta σ H fun vs H1 => ∃ (a b : Addr) (k1 k2 : Bool) (xs ys : List V), vs = [.ref a, .ref b] ∧ SqX K H1 k1 a xs ∧ SqX K H1 k2 b ys ∧ min xs.length ys.length ≤ sizeLine ∧
  ∀ (H' : Hp) (p : Addr) (ts : List Addr), Same H1 H' → H1 p = none → (∀ t ∈ ts, H1 t = none) → p ∉ ts → H' p = some (.lst (ts.map V.ref)) → Paired (fun (t : Addr) (q : V × V) => H' t = some (.tup [q.1, q.2])) ts (zipV xs ys) → Q (.ref p) H'
theorem pe_lz {e1 e2 : Expr} {ta : TA} {lp lpos p pos : Pos} (hc : X.calm = true) (hgl : Gl X "list") (hml : X.mg "list" = none) (hg : Gl X "zip") (hm : X.mg "zip" = none) (ha : PA X [e1, e2] ta)
    (hs : starEach [e1, e2] X.env = (false, eval e1 X.env) :: starEach [e2] X.env) (hpl : (backTo pos (starEach [e2] X.env)).any (·.1) = false) :
    PE X (.Call (.Name "list" lp) [.Call (.Name "zip" p) [e1, e2] [] pos] [] lpos) (tLz X.K ta) := by
  have hs0 : starEach [.Call (.Name "zip" p) [e1, e2] [] pos] X.env = (false, eval (.Call (.Name "zip" p) [e1, e2] [] pos) X.env) :: starEach [] X.env := rfl
  refine ⟨fun pins s σ H Q I h => ?_⟩
  have hbl : bootBuiltins (Str.ofString "list") = some (.type "list") := by decide +kernel
  refine wpAny_Call_Name_kw (ld_blt I hgl hml hbl ?_)
  refine PyProof.Rows.callWith_type1 ?_ hs0 rfl
  rw [hs0]
  show wpAny _ _ (spliced ((false, eval (.Call (.Name "zip" p) [e1, e2] [] pos) X.env) :: backTo lpos (starEach [] X.env))) _ _ s
  refine Calls.spliced_cons ?_
  refine Call_ (ld_blt I hg hm PyProof.Rows.boot_zip (PyProof.Rows.callWith_type1 (thn (ha.run pos pins s σ H _ I h) fun us s1 ⟨vs, H1, I1, r1, q1⟩ => ?_) hs hpl))
  obtain ⟨a, b, k1, k2, xs, ys, ex, hqx, hqy, hz0, q⟩ := q1
  subst ex
  cases r1 with
  | cons r rr =>
    cases rr with
    | cons r' rr =>
      cases rr
      cases r
      cases r'
      obtain ⟨o1, P1, B1, p1, n1, l1⟩ := begins_of I1 hqx
      obtain ⟨o2, P2, B2, p2, n2, l2⟩ := begins_of I1 hqy
      refine zip_begins2 B1 B2 p1 p2 fun h' hz hTI hTO g1 g2 hsz hk => ?_
      have S := zip_sep2 (N := s1.heap.objs.size) (fp1 := [a]) (fp2 := [b]) (by simpa using l1) (by simpa using l2)
      obtain ⟨its, St1, rv1, D1, w1⟩ := draws_ofB I1 (it := s1.heap.objs.size) hqx (Nat.ne_of_lt l1)
      obtain ⟨its2, St2, rv2, D2, w2⟩ := draws_ofB I1 (it := s1.heap.objs.size + 1) hqy (Nat.ne_of_lt (Nat.lt_succ_of_lt l2))
      have hsz' : s1.heap.objs.size ≤ h'.objs.size := by
        have := Heap.lt_size hz
        exact Nat.le_of_lt (Nat.lt_of_le_of_lt (Nat.le_add_right _ 4) this)
      have hmin : min its.length its2.length = min xs.length ys.length := by rw [rv1.length, rv2.length]
      refine Calls.spliced_nil ?_
      refine zl_call (s := { s1 with heap := h' }) (A := X.A) (I.ok.hd hc) S D1 D2 (fun c hc' => ?_) (fun c hc' => ?_) hz hTI hTO (w1 h' hk (n1 _ _ g1)) (w2 h' hk (n2 _ _ g2)) (by rw [hmin]; exact hz0) fun h'' tk acc c as hk2 hS hl hG hacc => ?_
      · have : c = s1.heap.objs.size ∨ c = a := by simpa using hc'
        rcases this with rfl | rfl
        · exact Heap.lt_size g1
        · exact Nat.lt_of_lt_of_le l1 hsz'
      · have : c = s1.heap.objs.size + 1 ∨ c = b := by simpa using hc'
        rcases this with rfl | rfl
        · exact Heap.lt_size g2
        · exact Nat.lt_of_lt_of_le l2 hsz'
      · have hk3 : ∀ b o, s1.heap.get? b = some o → h''.get? b = some o := fun b o e => by
          have hb := Heap.lt_size e
          exact hk2 b o (Nat.ne_of_lt (Nat.lt_of_lt_of_le hb (Nat.le_add_right _ _))) (Nat.ne_of_lt (Nat.lt_of_lt_of_le hb (Nat.le_add_right _ _))) (Nat.ne_of_lt hb) (Nat.ne_of_lt (Nat.lt_succ_of_lt hb)) (hk b o e)
        obtain ⟨H', k1', k2', k3', k4', k5', k6', k7', J⟩ := pairs_laid (tk := tk) (ps := zipV xs ys) I1 (by rw [zipV_length]; exact hz0) hk3 hsz' hS (by rw [hl, zipV_length]; exact hmin) hG.rise hG.above (fun j t pq e1 e2 => by
          obtain ⟨x1, x2, f1, f2, f3⟩ := hG.pairs j t e1
          obtain ⟨y1, y2⟩ := zipV_get _ _ _ _ e2
          obtain ⟨u1, v1, v2⟩ := rv1.get y1
          obtain ⟨u2, v3, v4⟩ := rv2.get y2
          have e3 : x1 = u1 := Option.some.inj ((show its[j]? = some x1 from f1).symm.trans v1)
          have e4 : x2 = u2 := Option.some.inj ((show its2[j]? = some x2 from f2).symm.trans v3)
          subst e3 e4
          exact ⟨_, _, v2, v4, f3⟩) hacc
        exact ⟨.ref _, H', J, rfl, q H' _ as k1' k2' k3' k4' k6' k7'⟩
end

theorem rp_zipV {K : PySem.W.Frag} {F : Hp} : ∀ {xs ys : List D} {vs us : List V} {ts : List Addr}, RpAll K F xs vs → RpAll K F ys us → Paired (fun (t : Addr) (q : V × V) => F t = some (.tup [q.1, q.2])) ts (zipV vs us) → RpAll K F (zipL xs ys) (ts.map V.ref)
  | [], ys, vs, us, ts, h1, h2, p => by
    have := h1.inv_nil
    subst this
    cases ts with
    | nil => exact .nil
    | cons t ts => cases p
  | x :: xs, [], vs, us, ts, h1, h2, p => by
    have := h2.inv_nil
    subst this
    obtain ⟨v, vs', rfl, _, _⟩ := h1.inv_cons
    cases ts with
    | nil => exact .nil
    | cons t ts => cases p
  | x :: xs, y :: ys, vs, us, ts, h1, h2, p => by
    obtain ⟨v, vs', rfl, a1, a2⟩ := h1.inv_cons
    obtain ⟨u, us', rfl, b1, b2⟩ := h2.inv_cons
    cases p with
    | cons q1 q2 =>
      refine .cons ?_ (rp_zipV a2 b2 q2)
      simp only [Rp]
      exact ⟨_, _, rfl, q1, .cons a1 (.cons b1 .nil)⟩
theorem sqx_of {K : PySem.W.Frag} {H : Hp} {U : AS} {a : D} {v : V} {xs : List D} (h : Rp K (hide H U) a v) (e : itemsD a = .val xs) : ∃ (p : Addr) (k : Bool) (vs : List V), v = .ref p ∧ SqX K H k p vs ∧ RpAll K (hide H U) xs vs := by
  cases a with
  | lst zs =>
    cases e
    obtain ⟨p, vs, rfl, ea, pa⟩ := (by simpa only [Rp] using h : ∃ a vs, v = .ref a ∧ (hide H U) a = some (.lst vs) ∧ RpAll K (hide H U) xs vs)
    exact ⟨p, true, vs, rfl, SqL.of (hide_le _ _ _ _ ea), pa⟩
  | tup zs =>
    cases e
    obtain ⟨p, vs, rfl, ea, pa⟩ := (by simpa only [Rp] using h : ∃ a vs, v = .ref a ∧ (hide H U) a = some (.tup vs) ∧ RpAll K (hide H U) xs vs)
    exact ⟨p, false, vs, rfl, SqT.of (hide_le _ _ _ _ ea), pa⟩
  | _ => simp [itemsD] at e
theorem paired_imp {α β : Type} {F G : α → β → Prop} : ∀ {xs : List α} {ys : List β}, (∀ x ∈ xs, ∀ y, F x y → G x y) → Paired F xs ys → Paired G xs ys
  | _, _, _, .nil => .nil
  | _, _, h, .cons r t => .cons (h _ (by simp) _ r) (paired_imp (fun x hx y => h x (by simp [hx]) y) t)
theorem lz_rd {K : PySem.W.Frag} {cls : Nat → Option Addr} {W : WX} {U : AS} {r : Rho} {σ : L2.St} {H : Hp} {fr : Bool} {Q : VK} {ds : List D} {vs : List V} (p : RpAll K (hide H U) ds vs) (h : tR K cls W U r fr (lzD ds) σ H Q) :
    ∃ (a b : Addr) (k1 k2 : Bool) (xs ys : List V), vs = [.ref a, .ref b] ∧ SqX K H k1 a xs ∧ SqX K H k2 b ys ∧ min xs.length ys.length ≤ sizeLine ∧
  ∀ (H' : Hp) (p : Addr) (ts : List Addr), Same H H' → H p = none → (∀ t ∈ ts, H t = none) → p ∉ ts → H' p = some (.lst (ts.map V.ref)) → Paired (fun (t : Addr) (q : V × V) => H' t = some (.tup [q.1, q.2])) ts (zipV xs ys) → Q (.ref p) H' := by
  match ds, p, h with
  | [], _, h => exact h.2.2.elim
  | [_], _, h => exact h.2.2.elim
  | _ :: _ :: _ :: _, _, h => exact h.2.2.elim
  | [a, b], p, h =>
    obtain ⟨v1, r1, rfl, a1, p2⟩ := p.inv_cons
    obtain ⟨v2, r2, rfl, a2, p3⟩ := p2.inv_cons
    have := p3.inv_nil
    subst this
    simp only [lzD] at h
    cases e1 : itemsD a with
    | exc k => exact (by cases a <;> simp [itemsD] at e1)
    | bad => rw [e1] at h; exact h.2.2.elim
    | val xs =>
      cases e2 : itemsD b with
      | exc k => exact (by cases b <;> simp [itemsD] at e2)
      | bad => rw [e1, e2] at h; exact h.2.2.elim
      | val ys =>
        rw [e1, e2] at h
        simp only [Res.bind] at h
        obtain ⟨q1, k1, us, rfl, hs1, pa1⟩ := sqx_of a1 e1
        obtain ⟨q2, k2, ws, rfl, hs2, pa2⟩ := sqx_of a2 e2
        split at h
        · rename_i hb
          refine ⟨q1, q2, k1, k2, us, ws, rfl, hs1, hs2, ?_, fun H' p ts s0 hp ht hpt hpl hprs => ?_⟩
          · have := big_le hb
            rw [zipL_length, pa1.length, pa2.length] at this
            exact this
          · obtain ⟨l, o, h⟩ := h
            have nU : ¬ U p := l.not hp
            have m1 : Same (hide H U) (hide H' U) := hide_mono s0
            have m2 : Same (hide H U) (hide H' fun b => U b ∨ b = p) := fun b o e => by
              obtain ⟨n, e⟩ := hide_some e
              rw [hide_out (fun z => z.elim n (ne_of_none e hp))]
              exact s0 b o e
            refine h (.ref p) H' s0 ?_ fun _ zs ez => ?_
            · simp only [Rp]
              refine ⟨p, _, rfl, by rw [hide_out nU]; exact hpl, rp_zipV (pa1.mono m1) (pa2.mono m1) (paired_imp (fun t ht' y e => ?_) hprs)⟩
              rw [hide_out (l.not (ht t ht'))]
              exact e
            · cases ez
              refine ⟨p, _, rfl, hp, hpl, rp_zipV (pa1.mono m2) (pa2.mono m2) (paired_imp (fun t ht' y e => ?_) hprs)⟩
              rw [hide_out (fun z => z.elim (l.not (ht t ht')) fun z => hpt (z ▸ ht'))]
              exact e
        · exact h.2.2.elim
end CS

/-! what the evaluator says of an expression, the machine does -/
namespace CS
open PySem L2 PySem.Spec PyProof.Rows

structure Snd (T : Tb) (cls : Nat → Option Addr) (e : E) : Prop where
  pe : ∀ {S : Sx} {X : Cx} {W : WX} (U : AS) (r : Rho) {pe : Expr}, Gd T cls S X W → chk T e S 0 pe = true → PE X pe (tR X.K cls W U r (isFresh T e) (ev T e r))
  pt : ∀ {S : Sx} {X : Cx} {W : WX} (U : AS) (r : Rho) {pe : Expr}, Gd T cls S X W → chk T e S 0 pe = true → PT X pe (tT X.K cls W U r (ev T e r))
  pw : ∀ {S : Sx} {X : Cx} {W : WX} (U : AS) (r : Rho) {op : BoolOp} {vs : List Expr} {pos : Pos}, Gd T cls S X W → chk T e S 0 (.BoolOp op vs pos) = true → PW X (.BoolOp op vs pos) (tT X.K cls W U r (ev T e r))
  pa : ∀ {S : Sx} {X : Cx} {W : WX} (U : AS) (r : Rho) {pes : List Expr}, Gd T cls S X W → chkA T e S pes = true → PA X pes (tAr X.K cls W U r (ev T e r))
  pi : ∀ {S : Sx} {X : Cx} {W : WX} (U : AS) (r : Rho) {tg pe : Expr}, Gd T cls S X W → chk T e S (tgF tg) pe = true → PI X tg pe (tIt X.K cls W U r (ev T e r))

section
variable {T : Tb} {cls : Nat → Option Addr} {S : Sx} {X : Cx} {W : WX} {U : AS} {r : Rho}
theorem pt_of {pe : Expr} {fr : Bool} {x : Res D} (p : PE X pe (tR X.K cls W U r fr x)) (he : ∀ whole, isTrue pe X.env whole = (do let v ← whole; standAt pe.pos; holding [v] (truthy v))) : PT X pe (tT X.K cls W U r x) := by
  refine PT.imp (pt_val p he) fun σ H Q h => ?_
  obtain ⟨l, o, h⟩ := h
  cases x with
  | bad => exact h.elim
  | exc k => exact ⟨l, o, h⟩
  | val d =>
    obtain ⟨b, rfl, k⟩ := h
    exact ⟨l, o, fun v H' s q _ => ⟨b, rp_bl.mp q, k H' s⟩⟩
theorem pi_of {tg pe : Expr} {fr : Bool} {x : Res D} (p : PE X pe (tR X.K cls W U r fr x)) : PI X tg pe (tIt X.K cls W U r x) := by
  refine PI.imp (pi_sq p) fun σ H R h => ?_
  obtain ⟨l, o, h⟩ := h
  cases x with
  | bad => exact h.elim
  | exc k => exact ⟨l, o, h⟩
  | val d =>
    obtain ⟨xs, e, k⟩ := h
    refine ⟨l, o, fun v H' s q _ => ?_⟩
    obtain ⟨a, kk, vs, rfl, q1, q2, q3⟩ := items_rp e q
    refine ⟨a, kk, vs, rfl, SqX.mono (hide_le H' U) q3, k _ H' s (walks_sq (d := d) q2 q3)⟩
theorem tT_of {x : Res D} {σ : L2.St} {H : Hp} {Q : Bool → Hp → Prop} (h : tT X.K cls W U r x σ H Q) : tR X.K cls W U r false x σ H (fun v H' => ∃ b, v = .bl b ∧ Q b H') := by
  obtain ⟨l, o, h⟩ := h
  cases x with
  | bad => exact h.elim
  | exc k => exact ⟨l, o, h⟩
  | val d =>
    obtain ⟨b, rfl, k⟩ := h
    exact ⟨l, o, fun v H' s q _ => ⟨b, rp_bl.mp q, k H' s⟩⟩
theorem tT_val {b : Bool} {σ : L2.St} {H : Hp} {Q : Bool → Hp → Prop} (h : tT X.K cls W U r (.val (.bl b)) σ H Q) : Q b H := by
  obtain ⟨l, o, b', e, k⟩ := h
  cases e
  exact k H (Same.refl _)
/-- a test first, then the rest -/
theorem tT_bindB {a : Res D} {f : D → Res D} {σ : L2.St} {H : Hp} {Q Q' : Bool → Hp → Prop} (h : tT X.K cls W U r (a.bind f) σ H Q) (hf : ∀ x, (∀ b, x ≠ .bl b) → f x = .bad)
    (k : ∀ b H1, Same H H1 → tT X.K cls W U r (f (.bl b)) σ H1 Q → Q' b H1) : tT X.K cls W U r a σ H Q' := by
  obtain ⟨l, o, h⟩ := h
  cases a with
  | bad => exact ⟨l, o, h⟩
  | exc c => exact ⟨l, o, h⟩
  | val x =>
    by_cases hb : ∃ b, x = .bl b
    · obtain ⟨b, rfl⟩ := hb
      refine ⟨l, o, b, rfl, fun H1 s1 => k b H1 s1 ⟨l.mono s1, o.mono s1, ?_⟩⟩
      have h' : match f (.bl b) with
        | .val d => ∃ b, d = .bl b ∧ ∀ H', Same H H' → Q b H'
        | .exc k => ∃ C, cls k = some C ∧ ∀ H', Same H H' → W (.ref C) none σ H'
        | .bad => False := h
      revert h'
      cases f (.bl b) with
      | bad => exact fun h => h
      | exc c => exact fun ⟨C, e, h⟩ => ⟨C, e, fun H' s => h H' (s1.trans s)⟩
      | val d => exact fun ⟨b, e, h⟩ => ⟨b, e, fun H' s => h H' (s1.trans s)⟩
    · have h' : match f x with
        | .val d => ∃ b, d = .bl b ∧ ∀ H', Same H H' → Q b H'
        | .exc k => ∃ C, cls k = some C ∧ ∀ H', Same H H' → W (.ref C) none σ H'
        | .bad => False := h
      rw [hf x (fun b z => hb ⟨b, z⟩)] at h'
      exact h'.elim
theorem tR_bindB {fr : Bool} {a : Res D} {f : D → Res D} {σ : L2.St} {H : Hp} {Q : VK} {Q' : Bool → Hp → Prop} (h : tR X.K cls W U r fr (a.bind f) σ H Q) (hf : ∀ x, (∀ b, x ≠ .bl b) → f x = .bad)
    (k : ∀ b H1, Same H H1 → tR X.K cls W U r fr (f (.bl b)) σ H1 Q → Q' b H1) : tT X.K cls W U r a σ H Q' := by
  obtain ⟨l, o, h⟩ := h
  cases a with
  | bad => exact ⟨l, o, h⟩
  | exc c => exact ⟨l, o, h⟩
  | val x =>
    by_cases hb : ∃ b, x = .bl b
    · obtain ⟨b, rfl⟩ := hb
      refine ⟨l, o, b, rfl, fun H1 s1 => k b H1 s1 ⟨l.mono s1, o.mono s1, ?_⟩⟩
      have h' : match f (.bl b) with
        | .val d => ∀ v H', Same H H' → Rp X.K (hide H' U) d v → (fr = true → ∀ xs, d = .lst xs → Fresh X.K U H H' xs v) → Q v H'
        | .exc k => ∃ C, cls k = some C ∧ ∀ H', Same H H' → W (.ref C) none σ H'
        | .bad => False := h
      revert h'
      cases f (.bl b) with
      | bad => exact fun h => h
      | exc c => exact fun ⟨C, e, h⟩ => ⟨C, e, fun H' s => h H' (s1.trans s)⟩
      | val d => exact fun h v' H' s p q => h v' H' (s1.trans s) p fun e xs z => (q e xs z).back s1
    · have h' : match f x with
        | .val d => ∀ v H', Same H H' → Rp X.K (hide H' U) d v → (fr = true → ∀ xs, d = .lst xs → Fresh X.K U H H' xs v) → Q v H'
        | .exc k => ∃ C, cls k = some C ∧ ∀ H', Same H H' → W (.ref C) none σ H'
        | .bad => False := h
      rw [hf x (fun b z => hb ⟨b, z⟩)] at h'
      exact h'.elim
/-- another wish about newness -/
theorem tR.weak {fr : Bool} {x : Res D} {σ : L2.St} {H : Hp} {Q : VK} (h : tR X.K cls W U r fr x σ H Q) : tR X.K cls W U r true x σ H Q := by
  obtain ⟨l, o, h⟩ := h
  cases x with
  | bad => exact h.elim
  | exc k => exact ⟨l, o, h⟩
  | val d => exact ⟨l, o, fun v H' s q f => h v H' s q fun _ => f rfl⟩

/-! ### the cases -/
theorem items_noexc {d : D} {k : Nat} (h : itemsD d = .exc k) : False := by
  cases d <;> simp [itemsD] at h
theorem nope {α : Prop} (h : false = true) : α := nomatch h
theorem snd_const {e : E} {d : D} (hev : ∀ r, ev T e r = .val d) (hn : ∀ xs, d ≠ .lst xs)
    (hpe : ∀ {S : Sx} {X : Cx} {W : WX} {pe : Expr}, Gd T cls S X W → chk T e S 0 pe = true → ∃ v, (∀ F, Rp X.K F d v) ∧ PE X pe (tC v) ∧ ∀ whole, isTrue pe X.env whole = (do let v ← whole; standAt pe.pos; holding [v] (truthy v)))
    (hfl : ∀ S n pe, chk T e S n pe = chk T e S 0 pe) (hA : ∀ S pes, chkA T e S pes = false) (hb : ∀ S op vs pos, chk T e S 0 (.BoolOp op vs pos) = false) : Snd T cls e := by
  have h1 : ∀ {S : Sx} {X : Cx} {W : WX} (U : AS) (r : Rho) {pe : Expr}, Gd T cls S X W → chk T e S 0 pe = true → PE X pe (tR X.K cls W U r (isFresh T e) (ev T e r)) := fun {S X W} U r {pe} g h => by
    obtain ⟨v, p, q, _⟩ := hpe g h
    rw [hev]
    exact PE.imp q fun σ H Q z => tR_val z (p _) hn
  refine ⟨h1, fun {S X W} U r {pe} g h => ?_, fun {S X W} U r {op vs pos} g h => ?_, fun {S X W} U r {pes} g h => ?_, fun {S X W} U r {tg pe} g h => ?_⟩
  · obtain ⟨v, p, q, z⟩ := hpe g h
    exact pt_of (h1 U r g h) z
  · rw [hb] at h; cases h
  · rw [hA] at h; cases h
  · rw [hfl] at h; exact pi_of (h1 U r g h)
/-- a case from its value's judgement -/
theorem snd_val {e : E} (h1 : ∀ {S : Sx} {X : Cx} {W : WX} (U : AS) (r : Rho) {pe : Expr}, Gd T cls S X W → chk T e S 0 pe = true → PE X pe (tR X.K cls W U r (isFresh T e) (ev T e r)))
    (ht : ∀ {S : Sx} {X : Cx} {W : WX} {pe : Expr}, Gd T cls S X W → chk T e S 0 pe = true → ∀ whole, isTrue pe X.env whole = (do let v ← whole; standAt pe.pos; holding [v] (truthy v)))
    (hfl : ∀ S n pe, chk T e S n pe = chk T e S 0 pe) (hA : ∀ S pes, chkA T e S pes = false) (hb : ∀ S op vs pos, chk T e S 0 (.BoolOp op vs pos) = false) : Snd T cls e := by
  refine ⟨h1, fun {S X W} U r {pe} g h => pt_of (h1 U r g h) (ht g h), fun {S X W} U r {op vs pos} g h => ?_, fun {S X W} U r {pes} g h => ?_, fun {S X W} U r {tg pe} g h => ?_⟩
  · rw [hb] at h; cases h
  · rw [hA] at h; cases h
  · rw [hfl] at h; exact pi_of (h1 U r g h)
theorem snd_non : Snd T cls .non := snd_const (d := .non) (fun _ => rfl) (fun _ z => nomatch z) (fun {S X W pe} g h => by
  simp only [chk] at h
  split at h
  · exact ⟨.non, fun F => by simp only [Rp], pe_non, fun _ => rfl⟩
  · cases h) (fun _ _ _ => rfl) (fun _ _ => rfl) (fun _ _ _ _ => rfl)
theorem snd_bl (b : Bool) : Snd T cls (.bl b) := snd_const (d := .bl b) (fun _ => rfl) (fun _ z => nomatch z) (fun {S X W pe} g h => by
  simp only [chk] at h
  split at h
  · have := eq_of_beq h
    subst this
    exact ⟨.bl b, fun F => by simp only [Rp], pe_bl, fun _ => rfl⟩
  · cases h) (fun _ _ _ => rfl) (fun _ _ => rfl) (fun _ _ _ _ => rfl)
theorem snd_int (b : Int) : Snd T cls (.int b) := snd_const (d := .int b) (fun _ => rfl) (fun _ z => nomatch z) (fun {S X W pe} g h => by
  simp only [chk] at h
  split at h
  · have := of_decide_eq_true h
    subst this
    exact ⟨.int b, fun F => by simp only [Rp], pe_int, fun _ => rfl⟩
  · cases h) (fun _ _ _ => rfl) (fun _ _ => rfl) (fun _ _ _ _ => rfl)
theorem snd_str (b : Str) : Snd T cls (.str b) := snd_const (d := .str b) (fun _ => rfl) (fun _ z => nomatch z) (fun {S X W pe} g h => by
  simp only [chk] at h
  split at h
  · have := of_decide_eq_true h
    subst this
    exact ⟨.str b, fun F => by simp only [Rp], pe_str, fun _ => rfl⟩
  · cases h) (fun _ _ _ => rfl) (fun _ _ => rfl) (fun _ _ _ _ => rfl)
theorem snd_var (i : Nat) : Snd T cls (.var i) := by
  refine snd_val (fun {S X W} U r {pe} g h => ?_) (fun {S X W pe} g h => ?_) (fun _ _ _ => rfl) (fun _ _ => rfl) (fun _ _ _ _ => rfl)
  · simp only [chk] at h
    split at h
    · simp only [Bool.and_eq_true] at h
      obtain ⟨d1, d2, _⟩ := plain_db h.2
      refine PE.imp (pe_var (g.at h.1.1) (g.vis h.1.2) d1 d2) fun σ H Q q => ?_
      obtain ⟨l, o, q⟩ := q
      simp only [ev] at q
      split at q
      · rename_i d e
        split at e
        · rename_i d' e'
          cases e
          obtain ⟨v, e1, e2⟩ := o.2 i _ e'
          exact ⟨v, e1, q v H (Same.refl _) e2 fun z => nomatch z⟩
        · cases e
      · rename_i e
        split at e <;> cases e
      · exact q.elim
    · cases h
  · simp only [chk] at h
    split at h
    · exact fun _ => rfl
    · cases h
theorem snd_gc (k : Nat) : Snd T cls (.gc k) := by
  refine snd_val (fun {S X W} U r {pe} g h => ?_) (fun {S X W pe} g h => ?_) (fun _ _ _ => rfl) (fun _ _ => rfl) (fun _ _ _ _ => rfl)
  · simp only [chk] at h
    split at h
    · rename_i x pos
      simp only [Bool.and_eq_true] at h
      obtain ⟨d1, d2, d3⟩ := plain_db h.2
      have hc := h.1.1
      unfold conIs at hc
      split at hc
      · rename_i p e
        have hp := of_decide_eq_true hc
        obtain ⟨u, v, m1, m2, m3⟩ := g.con p (List.mem_of_getElem? e)
        rw [hp] at m1
        refine PE.imp (pe_glob (g.gl h.1.2) m1 m2 d1) fun σ H Q q => ?_
        obtain ⟨l, o, q⟩ := q
        simp only [ev, e] at q
        exact q v H (Same.refl _) (m3 _) fun z => nomatch z
      · cases hc
    · cases h
  · simp only [chk] at h
    split at h
    · exact fun _ => rfl
    · cases h
theorem snd_anil : Snd T cls .anil := by
  refine ⟨fun {S X W} U r {pe} g h => nope (show false = true from h), fun {S X W} U r {pe} g h => nope (show false = true from h), fun {S X W} U r {op vs pos} g h => nope (show false = true from h), fun {S X W} U r {pes} g h => ?_, fun {S X W} U r {tg pe} g h => nope (show false = true from h)⟩
  cases pes with
  | cons a b => exact nope (show false = true from h)
  | nil =>
    refine PA.imp pa_nil fun σ H Q q => ?_
    obtain ⟨l, o, ds, e, q⟩ := q
    cases e
    exact q [] H (Same.refl _) .nil
theorem snd_acons {a es : E} (ia : Snd T cls a) (ie : Snd T cls es) : Snd T cls (.acons a es) := by
  refine ⟨fun {S X W} U r {pe} g h => nope (show false = true from h), fun {S X W} U r {pe} g h => nope (show false = true from h), fun {S X W} U r {op vs pos} g h => nope (show false = true from h), fun {S X W} U r {pes} g h => ?_, fun {S X W} U r {tg pe} g h => nope (show false = true from h)⟩
  cases pes with
  | nil => exact nope (show false = true from h)
  | cons e pes =>
    have hst := chkA_nostar h e (by simp)
    simp only [chkA, Bool.and_eq_true] at h
    refine PA.imp (pa_cons (ia.pe U r g h.1) (ie.pa U r g h.2) (star_cons hst)) fun σ H Q q => ?_
    simp only [ev] at q
    refine tA_bind q fun x v H1 s1 p1 _ q1 => ?_
    obtain ⟨l, o, q1⟩ := q1
    refine ⟨l, o, ?_⟩
    revert q1
    cases ev T es r with
    | bad => exact fun h => h
    | exc c => exact fun h => h
    | val y =>
      intro q1
      cases y with
      | lst ys =>
        obtain ⟨ds, e, q1⟩ := q1
        cases e
        exact ⟨ys, rfl, fun vs H2 s2 p2 => q1 (v :: vs) H2 s2 (.cons (p1.mono (hide_mono s2)) p2)⟩
      | _ => exact q1.elim
theorem snd_tup {es : E} (ie : Snd T cls es) : Snd T cls (.tup es) := by
  refine snd_val (fun {S X W} U r {pe} g h => ?_) (fun {S X W pe} g h => ?_) (fun _ _ _ => rfl) (fun _ _ => rfl) (fun _ _ _ _ => rfl)
  · simp only [chk] at h
    split at h
    · refine PE.imp (pe_tup (ie.pa U r g h)) fun σ H Q q => ?_
      simp only [ev] at q
      refine tR_args q fun ds vs H1 s1 p1 q1 => ?_
      split at q1
      · rename_i hb
        exact ⟨by rw [← p1.length]; exact big_le hb, fun p hp => tR_tup q1 p1 p hp⟩
      · exact bad_elim q1
    · cases h
  · simp only [chk] at h
    split at h
    · exact fun _ => rfl
    · cases h
theorem snd_lst {es : E} (ie : Snd T cls es) : Snd T cls (.lst es) := by
  refine snd_val (fun {S X W} U r {pe} g h => ?_) (fun {S X W pe} g h => ?_) (fun _ _ _ => rfl) (fun _ _ => rfl) (fun _ _ _ _ => rfl)
  · simp only [chk] at h
    split at h
    · refine PE.imp (pe_lst (ie.pa U r g h)) fun σ H Q q => ?_
      simp only [ev] at q
      refine tR_args q fun ds vs H1 s1 p1 q1 => ?_
      split at q1
      · rename_i hb
        exact ⟨by rw [← p1.length]; exact big_le hb, fun p hp => tR_lst q1 p1 p hp⟩
      · exact bad_elim q1
    · cases h
  · simp only [chk] at h
    split at h
    · exact fun _ => rfl
    · cases h
theorem snd_bin {o : Operator} {a b : E} (ia : Snd T cls a) (ib : Snd T cls b) : Snd T cls (.bin o a b) := by
  refine snd_val (fun {S X W} U r {pe} g h => ?_) (fun {S X W pe} g h => ?_) (fun _ _ _ => rfl) (fun _ _ => rfl) (fun _ _ _ _ => rfl)
  · simp only [chk] at h
    split at h
    · simp only [Bool.and_eq_true, decide_eq_true_eq] at h
      obtain ⟨⟨rfl, h1⟩, h2⟩ := h
      obtain ⟨rr, hr, hk⟩ := rd_bin (X := X) (cls := cls) (W := W) o
      refine PE.imp (pe_op hr (ia.pe U r g h1) (ib.pe U r g h2)) fun σ H Q q => ?_
      simp only [ev] at q
      refine tR_bind q fun x v H1 s1 p1 _ q1 => tR_bind q1 fun y u H2 s2 p2 _ q2 => ?_
      exact hk U r σ H2 _ Q x y v u (p1.mono (hide_mono s2)) p2 q2
    · cases h
  · simp only [chk] at h
    split at h
    · exact fun _ => rfl
    · cases h
theorem snd_neg {a : E} (ia : Snd T cls a) : Snd T cls (.neg a) := by
  refine snd_val (fun {S X W} U r {pe} g h => ?_) (fun {S X W pe} g h => ?_) (fun _ _ _ => rfl) (fun _ _ => rfl) (fun _ _ _ _ => rfl)
  · simp only [chk] at h
    split at h
    · refine PE.imp (pe_un un_neg (ia.pe U r g h)) fun σ H Q q => ?_
      simp only [ev] at q
      refine tR_bind q fun x v H1 s1 p1 _ q1 => ?_
      cases x with
      | int i => exact ⟨i, rp_int.mp p1, tR_int q1⟩
      | _ => exact bad_elim q1
    · cases h
  · simp only [chk] at h
    split at h
    · exact fun _ => rfl
    · cases h
theorem snd_cmp {o : CmpOp} {a b : E} (ia : Snd T cls a) (ib : Snd T cls b) : Snd T cls (.cmp o a b) := by
  have h1 : ∀ {S : Sx} {X : Cx} {W : WX} (U : AS) (r : Rho) {pe : Expr}, Gd T cls S X W → chk T (.cmp o a b) S 0 pe = true → PE X pe (tR X.K cls W U r (isFresh T (.cmp o a b)) (ev T (.cmp o a b) r)) := fun {S X W} U r {pe} g h => by
    simp only [chk] at h
    split at h
    · simp only [Bool.and_eq_true, decide_eq_true_eq, Bool.not_eq_true'] at h
      obtain ⟨⟨⟨rfl, hm⟩, h1⟩, h2⟩ := h
      obtain ⟨rr, hr, hk⟩ := rd_cmp (X := X) (cls := cls) (W := W) g.un o
      refine PE.imp (pe_cmpR hr (ia.pe U r g h1) (ib.pe U r g h2) hm) fun σ H Q q => ?_
      simp only [ev] at q
      refine tR_bind q fun x v H1 s1 p1 _ q1 => tR_bind q1 fun y u H2 s2 p2 _ q2 => ?_
      exact hk U r σ H2 _ Q x y v u (p1.mono (hide_mono s2)) p2 q2
    · cases h
  refine ⟨h1, fun {S X W} U r {pe} g h => ?_, fun {S X W} U r {op vs pos} g h => nope (show false = true from h), fun {S X W} U r {pes} g h => nope (show false = true from h), fun {S X W} U r {tg pe} g h => pi_of (h1 U r g h)⟩
  simp only [chk] at h
  split at h
  · simp only [Bool.and_eq_true, decide_eq_true_eq, Bool.not_eq_true'] at h
    obtain ⟨⟨⟨rfl, hm⟩, h1⟩, h2⟩ := h
    obtain ⟨rr, hr, hk⟩ := rd_cmp (X := X) (cls := cls) (W := W) g.un o
    refine PT.imp (pt_cmpR hr (ia.pe U r g h1) (ib.pe U r g h2) hm) fun σ H Q q => ?_
    have q := tT_of q
    simp only [ev] at q
    refine tR_bind q fun x v H1 s1 p1 _ q1 => tR_bind q1 fun y u H2 s2 p2 _ q2 => ?_
    exact hk U r σ H2 _ _ x y v u (p1.mono (hide_mono s2)) p2 q2
  · cases h

theorem snd_chain {o o' : CmpOp} {a b c : E} (ia : Snd T cls a) (ib : Snd T cls b) (ic : Snd T cls c) : Snd T cls (.chain o o' a b c) := by
  have h1 : ∀ {S : Sx} {X : Cx} {W : WX} (U : AS) (r : Rho) {pe : Expr}, Gd T cls S X W → chk T (.chain o o' a b c) S 0 pe = true → PE X pe (tR X.K cls W U r (isFresh T (.chain o o' a b c)) (ev T (.chain o o' a b c) r)) := fun {S X W} U r {pe} g h => by
    simp only [chk] at h
    split at h
    · simp only [Bool.and_eq_true, decide_eq_true_eq, Bool.not_eq_true'] at h
      obtain ⟨⟨⟨⟨⟨⟨rfl, rfl⟩, hm⟩, hm'⟩, h1⟩, h2⟩, h3⟩ := h
      obtain ⟨rr, hr, hk⟩ := rd_cmp (X := X) (cls := cls) (W := W) g.un o
      obtain ⟨rr', hr', hk'⟩ := rd_cmp (X := X) (cls := cls) (W := W) g.un o'
      refine PE.imp (pe_chain hr hr' (ia.pe U r g h1) (ib.pe U r g h2) (ic.pe U r g h3) hm') fun σ H Q q => ?_
      simp only [ev] at q
      refine tR_bind q fun x v H1 s1 p1 _ q1 => tR_bind q1 fun y u H2 s2 p2 _ q2 => ?_
      refine hk U r σ H2 false _ x y v u (p1.mono (hide_mono s2)) p2 (tR_bind q2 fun z w H3 s3 p3 _ q3 => ?_)
      cases z with
      | bl k =>
        refine ⟨k, rp_bl.mp p3, ?_⟩
        cases k with
        | true =>
          rw [if_pos rfl]
          exact tR_bind q3 fun t w' H4 s4 p4 _ q4 => hk' U r σ H4 _ Q y t u w' ((p2.mono (hide_mono s3)).mono (hide_mono s4)) p4 q4
        | false =>
          rw [if_neg Bool.false_ne_true]
          exact tR_bl q3
      | _ => exact bad_elim q3
    · cases h
  refine ⟨h1, fun {S X W} U r {pe} g h => ?_, fun {S X W} U r {op vs pos} g h => nope (show false = true from h), fun {S X W} U r {pes} g h => nope (show false = true from h), fun {S X W} U r {tg pe} g h => pi_of (h1 U r g h)⟩
  simp only [chk] at h
  split at h
  · simp only [Bool.and_eq_true, decide_eq_true_eq, Bool.not_eq_true'] at h
    obtain ⟨⟨⟨⟨⟨⟨rfl, rfl⟩, hm⟩, hm'⟩, h1⟩, h2⟩, h3⟩ := h
    obtain ⟨rr, hr, hk⟩ := rd_cmp (X := X) (cls := cls) (W := W) g.un o
    obtain ⟨rr', hr', hk'⟩ := rd_cmp (X := X) (cls := cls) (W := W) g.un o'
    refine PT.imp (pt_chain hr hr' (ia.pe U r g h1) (ib.pe U r g h2) (ic.pe U r g h3) hm') fun σ H Q q => ?_
    have q := tT_of q
    simp only [ev] at q
    refine tR_bind q fun x v H1 s1 p1 _ q1 => tR_bind q1 fun y u H2 s2 p2 _ q2 => ?_
    refine hk U r σ H2 false _ x y v u (p1.mono (hide_mono s2)) p2 (tR_bind q2 fun z w H3 s3 p3 _ q3 => ?_)
    cases z with
    | bl k =>
      refine ⟨k, rp_bl.mp p3, ?_⟩
      cases k with
      | true =>
        rw [if_pos rfl]
        exact tR_bind q3 fun t w' H4 s4 p4 _ q4 => hk' U r σ H4 _ _ y t u w' ((p2.mono (hide_mono s3)).mono (hide_mono s4)) p4 q4
      | false =>
        rw [if_neg Bool.false_ne_true]
        exact tR_bl q3
    | _ => exact bad_elim q3
  · cases h
theorem snd_not {a : E} (ia : Snd T cls a) : Snd T cls (.not a) := by
  have hf : ∀ x : D, (∀ b, x ≠ .bl b) → (match x with | .bl c => Res.val (D.bl (!c)) | _ => .bad) = .bad := fun x hx => by
    cases x <;> first | rfl | exact absurd rfl (hx _)
  have h1 : ∀ {S : Sx} {X : Cx} {W : WX} (U : AS) (r : Rho) {pe : Expr}, Gd T cls S X W → chk T (.not a) S 0 pe = true → PE X pe (tR X.K cls W U r (isFresh T (.not a)) (ev T (.not a) r)) := fun {S X W} U r {pe} g h => by
    simp only [chk] at h
    split at h
    · refine PE.imp (pe_not (ia.pe U r g h)) fun σ H Q q => ?_
      simp only [ev] at q
      refine tR_bind q fun x v H1 s1 p1 _ q1 => ?_
      cases x with
      | bl b => exact ⟨b, rp_bl.mp p1, tR_bl q1⟩
      | _ => exact bad_elim q1
    · cases h
  refine ⟨h1, fun {S X W} U r {pe} g h => ?_, fun {S X W} U r {op vs pos} g h => nope (show false = true from h), fun {S X W} U r {pes} g h => nope (show false = true from h), fun {S X W} U r {tg pe} g h => pi_of (h1 U r g h)⟩
  simp only [chk] at h
  split at h
  · refine PT.imp (pt_not (ia.pt U r g h)) fun σ H Q q => ?_
    simp only [ev] at q
    exact tT_bindB q hf fun b H1 s1 q1 => tT_val q1
  · cases h
theorem snd_and {a b : E} (ia : Snd T cls a) (ib : Snd T cls b) : Snd T cls (.and a b) := by
  have hf : ∀ (r : Rho) (x : D), (∀ b, x ≠ .bl b) → (match x with | .bl true => ev T b r | .bl false => Res.val (D.bl false) | _ => .bad) = .bad := fun r x hx => by
    cases x <;> first | rfl | exact absurd rfl (hx _)
  have h1 : ∀ {S : Sx} {X : Cx} {W : WX} (U : AS) (r : Rho) {pe : Expr}, Gd T cls S X W → chk T (.and a b) S 0 pe = true → PE X pe (tR X.K cls W U r (isFresh T (.and a b)) (ev T (.and a b) r)) := fun {S X W} U r {pe} g h => by
    simp only [chk] at h
    split at h
    · rename_i v u vs pos
      simp only [Bool.and_eq_true] at h
      have pb : PE X (.BoolOp .And (u :: vs) pos) (tR X.K cls W U r (isFresh T b) (ev T b r)) := by
        have h2 := h.2
        cases vs with
        | nil => exact pe_one (ib.pe U r g h2)
        | cons w vs => exact ib.pe U r g h2
      refine PE.imp (pe_and (ia.pe U r g h.1) pb) fun σ H Q q => ?_
      simp only [ev] at q
      refine tR_bind q fun x v H1 s1 p1 _ q1 => ?_
      cases x with
      | bl c =>
        refine ⟨c, rp_bl.mp p1, ?_⟩
        cases c with
        | true =>
          rw [if_pos rfl]
          obtain ⟨l, o, q1⟩ := q1
          refine ⟨l, o, ?_⟩
          simp only at q1
          revert q1
          cases ev T b r with
          | bad => exact fun h => h
          | exc c => exact fun h => h
          | val d => exact fun h v H' s p _ => h v H' s p fun z => nomatch z
        | false =>
          rw [if_neg Bool.false_ne_true]
          exact tR_bl q1
      | _ => exact bad_elim q1
    · cases h
  have h2 : ∀ {S : Sx} {X : Cx} {W : WX} (U : AS) (r : Rho) {op : BoolOp} {vs : List Expr} {pos : Pos}, Gd T cls S X W → chk T (.and a b) S 0 (.BoolOp op vs pos) = true → PW X (.BoolOp op vs pos) (tT X.K cls W U r (ev T (.and a b) r)) := fun {S X W} U r {op vs pos} g h => by
    simp only [chk] at h
    split at h
    · rename_i v u vs pos e
      cases e
      simp only [Bool.and_eq_true] at h
      have pb : PW X (.BoolOp .And (u :: vs) pos) (tT X.K cls W U r (ev T b r)) := by
        have h2 := h.2
        cases vs with
        | nil => exact pw_and1 (ib.pt U r g h2)
        | cons w vs => exact ib.pw U r g h2
      refine PW.imp (pw_and (ia.pt U r g h.1) pb) fun σ H Q q => ?_
      simp only [ev] at q
      refine tT_bindB q (hf r) fun c H1 s1 q1 => ?_
      cases c with
      | true => rw [if_pos rfl]; exact q1
      | false => rw [if_neg Bool.false_ne_true]; exact tT_val q1
    · cases h
  refine ⟨h1, fun {S X W} U r {pe} g h => ?_, h2, fun {S X W} U r {pes} g h => nope (show false = true from h), fun {S X W} U r {tg pe} g h => pi_of (h1 U r g h)⟩
  have h' := h
  simp only [chk] at h
  split at h
  · exact (h2 U r g h').pt
  · cases h
theorem snd_or {a b : E} (ia : Snd T cls a) (ib : Snd T cls b) : Snd T cls (.or a b) := by
  have hf : ∀ (r : Rho) (x : D), (∀ b, x ≠ .bl b) → (match x with | .bl true => Res.val (D.bl true) | .bl false => ev T b r | _ => .bad) = .bad := fun r x hx => by
    cases x <;> first | rfl | exact absurd rfl (hx _)
  have h1 : ∀ {S : Sx} {X : Cx} {W : WX} (U : AS) (r : Rho) {pe : Expr}, Gd T cls S X W → chk T (.or a b) S 0 pe = true → PE X pe (tR X.K cls W U r (isFresh T (.or a b)) (ev T (.or a b) r)) := fun {S X W} U r {pe} g h => by
    simp only [chk] at h
    split at h
    · rename_i v u vs pos
      simp only [Bool.and_eq_true] at h
      have pb : PE X (.BoolOp .Or (u :: vs) pos) (tR X.K cls W U r (isFresh T b) (ev T b r)) := by
        have h2 := h.2
        cases vs with
        | nil => exact pe_one (ib.pe U r g h2)
        | cons w vs => exact ib.pe U r g h2
      refine PE.imp (pe_or (ia.pe U r g h.1) pb) fun σ H Q q => ?_
      simp only [ev] at q
      refine tR_bind q fun x v H1 s1 p1 _ q1 => ?_
      cases x with
      | bl c =>
        refine ⟨c, rp_bl.mp p1, ?_⟩
        cases c with
        | false =>
          rw [if_neg Bool.false_ne_true]
          obtain ⟨l, o, q1⟩ := q1
          refine ⟨l, o, ?_⟩
          simp only at q1
          revert q1
          cases ev T b r with
          | bad => exact fun h => h
          | exc c => exact fun h => h
          | val d => exact fun h v H' s p _ => h v H' s p fun z => nomatch z
        | true =>
          rw [if_pos rfl]
          exact tR_bl q1
      | _ => exact bad_elim q1
    · cases h
  have h2 : ∀ {S : Sx} {X : Cx} {W : WX} (U : AS) (r : Rho) {op : BoolOp} {vs : List Expr} {pos : Pos}, Gd T cls S X W → chk T (.or a b) S 0 (.BoolOp op vs pos) = true → PW X (.BoolOp op vs pos) (tT X.K cls W U r (ev T (.or a b) r)) := fun {S X W} U r {op vs pos} g h => by
    simp only [chk] at h
    split at h
    · rename_i v u vs pos e
      cases e
      simp only [Bool.and_eq_true] at h
      have pb : PW X (.BoolOp .Or (u :: vs) pos) (tT X.K cls W U r (ev T b r)) := by
        have h2 := h.2
        cases vs with
        | nil => exact pw_or1 (ib.pt U r g h2)
        | cons w vs => exact ib.pw U r g h2
      refine PW.imp (pw_or (ia.pt U r g h.1) pb) fun σ H Q q => ?_
      simp only [ev] at q
      refine tT_bindB q (hf r) fun c H1 s1 q1 => ?_
      cases c with
      | true => rw [if_pos rfl]; exact tT_val q1
      | false => rw [if_neg Bool.false_ne_true]; exact q1
    · cases h
  refine ⟨h1, fun {S X W} U r {pe} g h => ?_, h2, fun {S X W} U r {pes} g h => nope (show false = true from h), fun {S X W} U r {tg pe} g h => pi_of (h1 U r g h)⟩
  have h' := h
  simp only [chk] at h
  split at h
  · exact (h2 U r g h').pt
  · cases h

theorem tR_frB {fr : Bool} {x : Res D} {σ : L2.St} {H : Hp} {Q : VK} (h : tR X.K cls W U r false x σ H Q) : tR X.K cls W U r fr x σ H Q := by
  obtain ⟨l, o, h⟩ := h
  cases x with
  | bad => exact h.elim
  | exc k => exact ⟨l, o, h⟩
  | val d => exact ⟨l, o, fun v H' s q _ => h v H' s q fun z => nomatch z⟩
theorem tR_frI {fr fr' : Bool} {x : Res D} {σ : L2.St} {H : Hp} {Q : VK} (hi : fr = true → fr' = true) (h : tR X.K cls W U r fr x σ H Q) : tR X.K cls W U r fr' x σ H Q := by
  obtain ⟨l, o, h⟩ := h
  cases x with
  | bad => exact h.elim
  | exc k => exact ⟨l, o, h⟩
  | val d => exact ⟨l, o, fun v H' s q f => h v H' s q fun z => f (hi z)⟩
theorem snd_ife {c a b : E} (ic : Snd T cls c) (ia : Snd T cls a) (ib : Snd T cls b) : Snd T cls (.ife c a b) := by
  have hf : ∀ (r : Rho) (x : D), (∀ b, x ≠ .bl b) → (match x with | .bl true => ev T a r | .bl false => ev T b r | _ => .bad) = .bad := fun r x hx => by
    cases x <;> first | rfl | exact absurd rfl (hx _)
  have h1 : ∀ {S : Sx} {X : Cx} {W : WX} (U : AS) (r : Rho) {pe : Expr}, Gd T cls S X W → chk T (.ife c a b) S 0 pe = true → PE X pe (tR X.K cls W U r (isFresh T (.ife c a b)) (ev T (.ife c a b) r)) := fun {S X W} U r {pe} g h => by
    simp only [chk] at h
    split at h
    · simp only [Bool.and_eq_true] at h
      obtain ⟨⟨h1, h2⟩, h3⟩ := h
      refine PE.imp (pe_ifExp (ic.pt U r g h1) (ia.pe U r g h2) (ib.pe U r g h3)) fun σ H Q q => ?_
      simp only [ev] at q
      refine tR_bindB q (hf r) fun b H1 s1 q1 => ?_
      cases b with
      | true =>
        rw [if_pos rfl]
        exact tR_frI (fun z => by simp only [isFresh, Bool.and_eq_true] at z; exact z.1) q1
      | false =>
        rw [if_neg Bool.false_ne_true]
        exact tR_frI (fun z => by simp only [isFresh, Bool.and_eq_true] at z; exact z.2) q1
    · cases h
  refine ⟨h1, fun {S X W} U r {pe} g h => ?_, fun {S X W} U r {op vs pos} g h => nope (show false = true from h), fun {S X W} U r {pes} g h => nope (show false = true from h), fun {S X W} U r {tg pe} g h => pi_of (h1 U r g h)⟩
  simp only [chk] at h
  split at h
  · simp only [Bool.and_eq_true] at h
    obtain ⟨⟨h1, h2⟩, h3⟩ := h
    have p1 := ic.pt U r g h1
    have p2 := ia.pt U r g h2
    have p3 := ib.pt U r g h3
    refine ⟨fun pins s σ H Q I q => ?_⟩
    show wpAny _ _ (do if ← isTrue _ X.env (eval _ X.env) then isTrue _ X.env (eval _ X.env) else isTrue _ X.env (eval _ X.env)) _ _ _
    simp only [ev] at q
    refine wpAny_bind (thn (p1.run pins s σ H (fun c0 H1 => tT X.K cls W U r (match D.bl c0 with | .bl true => ev T a r | .bl false => ev T b r | _ => .bad) σ H1 Q) I ?_) fun c0 s1 ⟨H1, I1, q1⟩ => ?_)
    · have hf' : ∀ (x : D), (∀ b, x ≠ .bl b) → (match x with | .bl true => ev T a r | .bl false => ev T b r | _ => .bad) = .bad := hf r
      exact tT_bindB q hf' fun b H1 s1 q1 => q1
    · cases c0 with
      | true => exact p2.run pins s1 σ H1 Q I1 q1
      | false => exact p3.run pins s1 σ H1 Q I1 q1
  · cases h
theorem snd_ix {a i : E} (ia : Snd T cls a) (ii : Snd T cls i) : Snd T cls (.ix a i) := by
  refine snd_val (fun {S X W} U r {pe} g h => ?_) (fun {S X W pe} g h => ?_) (fun _ _ _ => rfl) (fun _ _ => rfl) (fun _ _ _ _ => rfl)
  · simp only [chk] at h
    split at h
    · rename_i v j pos
      simp only [Bool.and_eq_true] at h
      obtain ⟨⟨h0, h1⟩, h2⟩ := h
      obtain ⟨rr, hr, hk⟩ := rd_ix (X := X) (cls := cls) (W := W)
      have hpl : PlainIx j := fun o i => by
        cases j <;> first | rfl | exact nope (show false = true from h0)
      refine PE.imp (pe_ix hr (ia.pe U r g h1) (ii.pe U r g h2) hpl) fun σ H Q q => ?_
      simp only [ev] at q
      refine tR_bind q fun x v H1 s1 p1 _ q1 => tR_bind q1 fun y u H2 s2 p2 _ q2 => ?_
      exact hk U r σ H2 Q x y v u (p1.mono (hide_mono s2)) p2 q2
    · cases h
  · simp only [chk] at h
    split at h
    · exact fun _ => rfl
    · cases h
/-- a slice's end -/
theorem po_of {e : E} (ie : Snd T cls e) (g : Gd T cls S X W) {l : Option Expr} (h : (match l with | none => isAnil e | some le => !isAnil e && chk T e S 0 le) = true) :
    ∃ t : TO, PO X l t ∧ ∀ {fr : Bool} {σ : L2.St} {H : Hp} {Q : VK} {f : Option Int → Res D} {Q' : Option Int → Hp → Prop}, tR X.K cls W U r fr ((if isAnil e then .val none else (ev T e r).bind optI : Res (Option Int)).bind f) σ H Q →
      (∀ o H1, Same H H1 → tR X.K cls W U r fr (f o) σ H1 Q → Q' o H1) → t σ H Q' := by
  cases l with
  | none =>
    refine ⟨_, po_none, fun {fr σ H Q f Q'} q k => ?_⟩
    have h : isAnil e = true := h
    rw [h] at q
    exact k none H (Same.refl _) q
  | some le =>
    simp only [Bool.and_eq_true, Bool.not_eq_true'] at h
    refine ⟨_, po_some (ie.pe U r g h.2), fun {fr σ H Q f Q'} q k => ?_⟩
    rw [h.1, if_neg Bool.false_ne_true] at q
    have q' : tR X.K cls W U r fr ((ev T e r).bind fun x => (optI x).bind f) σ H Q := by
      have : ((ev T e r).bind optI).bind f = (ev T e r).bind fun x => (optI x).bind f := by cases ev T e r <;> rfl
      rw [← this]; exact q
    refine tR_bind q' fun x v H1 s1 p1 _ q1 => ?_
    cases x with
    | int i => exact ⟨i, rp_int.mp p1, k (some i) H1 s1 q1⟩
    | _ => exact bad_elim q1
theorem snd_sl {a lo hi : E} (ia : Snd T cls a) (il : Snd T cls lo) (ih : Snd T cls hi) : Snd T cls (.sl a lo hi) := by
  refine snd_val (fun {S X W} U r {pe} g h => ?_) (fun {S X W pe} g h => ?_) (fun _ _ _ => rfl) (fun _ _ => rfl) (fun _ _ _ _ => rfl)
  · simp only [chk] at h
    split at h
    · rename_i v l hh p2 pos
      simp only [Bool.and_eq_true] at h
      obtain ⟨⟨h0, h1⟩, h2⟩ := h
      obtain ⟨rr, hr, hk⟩ := rd_sl (X := X) (cls := cls) (W := W)
      obtain ⟨t1, po1, k1⟩ := po_of (U := U) (r := r) il g h1
      obtain ⟨t2, po2, k2⟩ := po_of (U := U) (r := r) ih g h2
      refine PE.imp (pe_slice hr (ia.pe U r g h0) po1 po2) fun σ H Q q => ?_
      simp only [ev] at q
      refine tR_bind q fun x v H1 s1 p1 _ q1 => k1 q1 fun o1 H2 s2 q2 => k2 q2 fun o2 H3 s3 q3 => ?_
      exact hk U r σ H3 _ Q x v o1 o2 ((p1.mono (hide_mono s2)).mono (hide_mono s3)) q3
    · cases h
  · simp only [chk] at h
    split at h
    · exact fun _ => rfl
    · cases h
theorem snd_rev {a : E} (ia : Snd T cls a) : Snd T cls (.rev a) := by
  refine snd_val (fun {S X W} U r {pe} g h => ?_) (fun {S X W pe} g h => ?_) (fun _ _ _ => rfl) (fun _ _ => rfl) (fun _ _ _ _ => rfl)
  · simp only [chk] at h
    split at h
    · simp only [Bool.and_eq_true, decide_eq_true_eq] at h
      obtain ⟨rfl, h1⟩ := h
      refine PE.imp (pe_revL (ia.pe U r g h1)) fun σ H Q q => ?_
      simp only [ev] at q
      refine tR_bind q fun x v H1 s1 p1 _ q1 => ?_
      cases x with
      | lst xs =>
        obtain ⟨a, vs, rfl, ea, pa⟩ := rp_lst p1
        exact ⟨a, vs, rfl, SqL.of (hide_le _ _ _ _ ea), fun p hp => tR_lst q1 pa.rev p hp⟩
      | _ => exact bad_elim q1
    · cases h
  · simp only [chk] at h
    split at h
    · exact fun _ => rfl
    · cases h
theorem b1_blt (f : B1) : b1Name f ∈ bltNames ∧ (b1Name f == ("__debug__" : Str)) = false ∧ b1Name f ≠ "__name__" := by
  cases f <;> decide +kernel
theorem snd_b1 {f : B1} {a : E} (ia : Snd T cls a) : Snd T cls (.b1 f a) := by
  refine snd_val (fun {S X W} U r {pe} g h => ?_) (fun {S X W pe} g h => ?_) (fun _ _ _ => rfl) (fun _ _ => rfl) (fun _ _ _ _ => rfl)
  · simp only [chk] at h
    split at h
    · rename_i x p e pos
      simp only [Bool.and_eq_true, decide_eq_true_eq] at h
      obtain ⟨⟨rfl, h1⟩, h2⟩ := h
      obtain ⟨m1, m2, m3⟩ := b1_blt f
      have hst := chk_nostar h2
      have ha : PA X [e] (tCons (tR X.K cls W U r (isFresh T a) (ev T a r)) tNil) := pa_cons (ia.pe U r g h2) pa_nil (star_cons hst)
      obtain ⟨rr, hr, hk⟩ := rd_b1 (X := X) (cls := cls) (W := W) g.calm g.un f
      have fin : ∀ σ H Q, tR X.K cls W U r (isFresh T (.b1 f a)) (ev T (.b1 f a) r) σ H Q → tCB rr (tCons (tR X.K cls W U r (isFresh T a) (ev T a r)) tNil) σ H Q := fun σ H Q q => by
        simp only [ev] at q
        exact tR_bind q fun x v H1 s1 p1 _ q1 => hk U r σ H1 _ Q x v p1 q1
      have hv := boot_b1 f
      cases f <;> first
        | exact PE.imp (pe_callB hr (g.gl h1) (g.blt _ m1) hv ha m3 m2 (star_cons hst) rfl) fin
        | exact PE.imp (pe_callTy hr (g.gl h1) (g.blt _ m1) hv ha m3 m2 (star_cons hst) rfl) fin
    · cases h
  · simp only [chk] at h
    split at h
    · exact fun _ => rfl
    · cases h
theorem ty_boot : ∀ k : Fin 5, bootBuiltins (tyStr k) = some (.type (tyStr k)) ∧ ((tyStr k : Str) ∈ bltNames) ∧ ((tyStr k : Str) == ("__debug__" : Str)) = false ∧ (tyStr k : Str) ≠ "__name__" := by decide +kernel
theorem tyName_lt {k : Nat} {t : String} (h : tyName k = some t) : k < 5 ∧ t = tyStr k := by
  match k, h with
  | 0, h => cases h; exact ⟨by decide, rfl⟩
  | 1, h => cases h; exact ⟨by decide, rfl⟩
  | 2, h => cases h; exact ⟨by decide, rfl⟩
  | 3, h => cases h; exact ⟨by decide, rfl⟩
  | 4, h => cases h; exact ⟨by decide, rfl⟩
  | k + 5, h => cases h
theorem snd_isi {a : E} {k : Nat} (ia : Snd T cls a) : Snd T cls (.isi a k) := by
  refine snd_val (fun {S X W} U r {pe} g h => ?_) (fun {S X W pe} g h => ?_) (fun _ _ _ => rfl) (fun _ _ => rfl) (fun _ _ _ _ => rfl)
  · simp only [chk] at h
    split at h
    · rename_i x p e y p2 pos
      simp only [Bool.and_eq_true, decide_eq_true_eq] at h
      obtain ⟨⟨⟨⟨rfl, h1⟩, h2⟩, h3⟩, h4⟩ := h
      split at h3
      · rename_i t et
        obtain ⟨hk, rfl⟩ := tyName_lt et
        have hy := of_decide_eq_true h3
        subst hy
        obtain ⟨b1, b2, b3, b4⟩ := ty_boot ⟨k, hk⟩
        have hst := chk_nostar h4
        have p2 : PE X (.Name (tyStr k) p2) (tC (.ty (tyStr k))) := pe_bltn (g.gl h2) (g.blt _ b2) b1 rfl b4 b3
        have ha : PA X [e, .Name (tyStr k) _] (tCons (tR X.K cls W U r (isFresh T a) (ev T a r)) (tCons (tC (.ty (tyStr k))) tNil)) := pa_cons (ia.pe U r g h4) (pa_cons p2 pa_nil rfl) (star_cons hst)
        refine PE.imp (pe_callB call_isi (g.gl h1) (g.blt _ (by decide +kernel)) PyProof.Rows.boot_isinstance ha (by decide) (by decide) (star_cons hst) rfl) fun σ H Q q => ?_
        simp only [ev] at q
        exact tR_bind q fun x v H1 s1 p1 _ q1 => rd_isi hk p1 q1
      · cases h3
    · cases h
  · simp only [chk] at h
    split at h
    · exact fun _ => rfl
    · cases h

/-- f() -/
theorem pe_callS0 {CX : CXT} {k : Nat} {f : Addr} {fd : FuncData} {ps : List Str} {sp : Sp} {E : L2.St → XK} {x : Str} {p pos : Pos} (F : FnOk X.prog X.w X.K X.mg X.base CX k f fd ps sp) (hr : Room k X.A) (hg : Gl X x) (hm : X.mg x = some (.ref f)) (hk : PySem.W.keepIn X.K (.ref f) = true) (hb : Binds X.K fd ps []) (hx : ∀ σ, PassesAt CX X σ (E σ))
    (hdb : (x == ("__debug__" : Str)) = false) : PE X (.Call (.Name x p) [] [] pos) (tCallS sp E tNil) := by
  refine ⟨fun pins s σ H Q I h => ?_⟩
  refine wpAny_Call_Name_kw (ld_glob I hg hm ?_ hdb)
  exact PySem.W.callWith_K0 I.kIn hk (run_fnS (us := []) F hr hb (hx σ) I .nil h)
theorem snd_call {f : Nat} {es : E} (ie : Snd T cls es) : Snd T cls (.call f es) := by
  refine snd_val (fun {S X W} U r {pe} g h => ?_) (fun {S X W pe} g h => ?_) (fun _ _ _ => rfl) (fun _ _ => rfl) (fun _ _ _ _ => rfl)
  · simp only [chk] at h
    split at h
    · rename_i x p as pos
      simp only [Bool.and_eq_true] at h
      obtain ⟨⟨⟨h0, h1⟩, h2⟩, h3⟩ := h
      obtain ⟨d1, d2, d3⟩ := plain_db h2
      obtain ⟨fn, e1, rfl⟩ := fnIs_get h0
      obtain ⟨k, a, fd, hr, hm, hkp, hb, hF⟩ := (g.fns fn (List.mem_of_getElem? e1)).ex
      have hst := chkA_nostar h3
      have fin : ∀ σ H Q, tR X.K cls W U r (isFresh T (.call f es)) (ev T (.call f es) r) σ H Q → tCallS (spOf X.K cls fn) (WE W) (tAr X.K cls W U r (ev T es r)) σ H Q := fun σ H Q q => by
        simp only [ev] at q
        refine tR_args q fun ds vs H1 s1 p1 q1 => call_rd e1 (fun z => ?_) p1 q1
        simp only [isFresh, e1] at z
        exact z
      have pa := ie.pa U r g h3
      cases as with
      | nil =>
        refine PE.imp (pe_callS0 hF hr (g.gl h1) hm hkp hb (fun σ => passAt g.tk σ) d1) fun σ H Q q => ?_
        have q := fin σ H Q q
        have hes : es = .anil := by
          cases es <;> first | rfl | exact nope (show false = true from h3)
        subst hes
        obtain ⟨l, o, ds, e, q⟩ := q
        cases e
        exact q [] H (Same.refl _) .nil
      | cons b bs =>
        exact PE.imp (pe_callS hF hr (g.gl h1) hm hkp hb (fun σ => passAt g.tk σ) pa d1 (star_cons (hst b (by simp))) (plain_any fun e he => hst e (by simp [he]))) fin
    · cases h
  · simp only [chk] at h
    split at h
    · exact fun _ => rfl
    · cases h
theorem snd_callIf {c : E} {f1 f2 : Nat} {es : E} (ic : Snd T cls c) (ie : Snd T cls es) : Snd T cls (.callIf c f1 f2 es) := by
  refine snd_val (fun {S X W} U r {pe} g h => ?_) (fun {S X W pe} g h => ?_) (fun _ _ _ => rfl) (fun _ _ => rfl) (fun _ _ _ _ => rfl)
  · simp only [chk] at h
    split at h
    · rename_i t x px y py p2 b bs pos
      simp only [Bool.and_eq_true] at h
      obtain ⟨⟨⟨⟨⟨⟨⟨h0, h1⟩, h2⟩, h3⟩, h4⟩, h5⟩, h6⟩, h7⟩ := h
      obtain ⟨d1, d2, d3⟩ := plain_db h3
      obtain ⟨d1', d2', d3'⟩ := plain_db h6
      obtain ⟨fa, e1, rfl⟩ := fnIs_get h1
      obtain ⟨fb, e2, rfl⟩ := fnIs_get h4
      obtain ⟨k, a, fd, hr, hm, hkp, hb, hF⟩ := (g.fns fa (List.mem_of_getElem? e1)).ex
      obtain ⟨k', a', fd', hr', hm', hkp', hb', hF'⟩ := (g.fns fb (List.mem_of_getElem? e2)).ex
      have hst := chkA_nostar h7
      have pa := ie.pa U r g h7
      have pf : PE X (.IfExp t (.Name fa.name px) (.Name fb.name py) p2) (tIf (tT X.K cls W U r (ev T c r)) (tC (.ref a)) (tC (.ref a'))) := pe_ifExp (ic.pt U r g h0) (pe_glob (g.gl h2) hm rfl d1) (pe_glob (g.gl h5) hm' rfl d1')
      refine ⟨fun pins s σ H Q I q => ?_⟩
      simp only [ev] at q
      have hf : ∀ x : D, (∀ b, x ≠ .bl b) → ((match x with | .bl true => Res.val f1 | .bl false => .val f2 | _ => .bad : Res Nat).bind fun k => (ev T es r).bind fun y => (argsD y).bind fun ys => callF T k ys) = .bad := fun x hx => by
        cases x <;> first | rfl | exact absurd rfl (hx _)
      refine Call_ (thn (pf.run pins s σ H (fun v H1 => ∃ b : Bool, v = .ref (if b = true then a else a') ∧ tR X.K cls W U r (isFresh T (.callIf c f1 f2 es)) ((ev T es r).bind fun y => (argsD y).bind fun ys => callF T (if b = true then f1 else f2) ys) σ H1 Q) I ?_) fun u s1 hq => ?_)
      · exact tR_bindB q hf fun b H1 s1 q1 => by
          cases b with
          | true => rw [if_pos rfl]; exact ⟨true, rfl, q1⟩
          | false => rw [if_neg Bool.false_ne_true]; exact ⟨false, rfl, q1⟩
      · obtain ⟨v, H1, I1, r1, cb, rfl, q1⟩ := hq
        have hu : u = Value.ref (if cb = true then a else a') := r1
        subst hu
        cases cb with
        | true =>
          refine PySem.W.callWith_K (h₀ := X.base) I.ok.mod.kin hkp (thn (pa.run pos pins s1 σ H1 _ I1 (tR_args q1 (Q' := fun vs H2 => spOf X.K cls fa vs H2 Q (WE W σ)) fun ds vs H2 s2 p2 q2 => call_rd (fr := false) e1 (fun z => nomatch z) p2 q2)) fun us s2 ⟨vs, H2, I2, rv, q2⟩ => ⟨I2.kIn, ?_⟩) (star_cons (hst b (by simp))) (plain_any fun e he => hst e (by simp [he]))
          exact run_fnS hF hr hb (passAt g.tk σ) I2 rv q2
        | false =>
          refine PySem.W.callWith_K (h₀ := X.base) I.ok.mod.kin hkp' (thn (pa.run pos pins s1 σ H1 _ I1 (tR_args q1 (Q' := fun vs H2 => spOf X.K cls fb vs H2 Q (WE W σ)) fun ds vs H2 s2 p2 q2 => call_rd (fr := false) e2 (fun z => nomatch z) p2 q2)) fun us s2 ⟨vs, H2, I2, rv, q2⟩ => ⟨I2.kIn, ?_⟩) (star_cons (hst b (by simp))) (plain_any fun e he => hst e (by simp [he]))
          exact run_fnS hF' hr' hb' (passAt g.tk σ) I2 rv q2
    · cases h
  · simp only [chk] at h
    split at h
    · exact fun _ => rfl
    · cases h
theorem tR_later {fr : Bool} {x : Res D} {σ : L2.St} {H H1 : Hp} {Q : VK} (h : tR X.K cls W U r fr x σ H Q) (s : Same H H1) : tR X.K cls W U r fr x σ H1 Q := by
  obtain ⟨l, o, h⟩ := h
  refine ⟨l.mono s, o.mono s, ?_⟩
  cases x with
  | bad => exact h
  | exc c =>
    obtain ⟨C, e, h⟩ := h
    exact ⟨C, e, fun H' s' => h H' (s.trans s')⟩
  | val d => exact fun v H' s' p f => h v H' (s.trans s') p fun z xs e => (f z xs e).back s
/-- names of defs, one by one -/
theorem fs_ok {fs : List Nat} : ∀ {fl : List Expr} (g : Gd T cls S X W), chkFs T S fs fl = true →
    ∃ as : List Addr, PA X fl (fun _ H Q => Q (as.map V.ref) H) ∧ as.length = fs.length ∧ fl.length = fs.length ∧ ∀ (n k : Nat), fs[n]? = some k → ∃ (f : Fn) (a : Addr), T.fns[k]? = some f ∧ as[n]? = some a ∧
      ∃ (j : Nat) (fd : FuncData), Room j X.A ∧ PySem.W.keepIn X.K (.ref a) = true ∧ Binds X.K fd f.ps [] ∧ FnOk X.prog X.w X.K X.mg X.base (CX X.prog X.w) j a fd f.ps (spOf X.K cls f) := by
  induction fs with
  | nil =>
    intro fl g h
    cases fl with
    | nil => exact ⟨[], pa_nil, rfl, rfl, fun n k e => by simp at e⟩
    | cons a b => cases a <;> exact nope (show false = true from h)
  | cons k ks ih =>
    intro fl g h
    cases fl with
    | nil => exact nope (show false = true from h)
    | cons e es =>
      cases e with
      | Name x px =>
        simp only [chkFs, Bool.and_eq_true] at h
        obtain ⟨⟨⟨h1, h2⟩, h3⟩, h4⟩ := h
        obtain ⟨as, p, l1, l2, w⟩ := ih g h4
        obtain ⟨d1, d2, d3⟩ := plain_db h3
        obtain ⟨fa, e1, rfl⟩ := fnIs_get h1
        obtain ⟨j, a, fd, hr, hm, hkp, hb, hF⟩ := (g.fns fa (List.mem_of_getElem? e1)).ex
        refine ⟨a :: as, pa_cons (pe_glob (v := .ref a) (g.gl h2) hm rfl d1) p rfl, by simp [l1], by simp [l2], fun n k' e => ?_⟩
        cases n with
        | zero =>
          simp at e
          subst e
          exact ⟨fa, a, e1, rfl, j, fd, hr, hkp, hb, hF⟩
        | succ n =>
          simp at e
          exact w n k' e
      | _ => exact nope (show false = true from h)
theorem snd_callIx {fs : List Nat} {i : E} {es : E} (ii : Snd T cls i) (ie : Snd T cls es) : Snd T cls (.callIx fs i es) := by
  refine snd_val (fun {S X W} U r {pe} g h => ?_) (fun {S X W pe} g h => ?_) (fun _ _ _ => rfl) (fun _ _ => rfl) (fun _ _ _ _ => rfl)
  · simp only [chk] at h
    split at h
    · rename_i fl p1 j p2 b bs pos
      simp only [Bool.and_eq_true] at h
      obtain ⟨⟨⟨⟨h0, hl⟩, h1⟩, h2⟩, h3⟩ := h
      obtain ⟨as, pf, l1, l2, hw⟩ := fs_ok g h2
      have hst := chkA_nostar h3
      have pa := ie.pa U r g h3
      have hpl : PlainIx j := fun o i => by
        cases j <;> first | rfl | exact nope (show false = true from h0)
      have pf : PE X (.Subscript (.List fl p1) j p2) (tOp (rIx X.K) (tLst (fun _ H Q => Q (as.map V.ref) H)) (tR X.K cls W U r (isFresh T i) (ev T i r))) := pe_ix ix_seq (pe_lst pf) (ii.pe U r g h1) hpl
      refine ⟨fun pins s σ H Q I q => ?_⟩
      simp only [ev] at q
      refine Call_ (thn (pf.run pins s σ H (fun v H1 => ∃ (n k : Nat) (a : Addr), v = .ref a ∧ fs[n]? = some k ∧ as[n]? = some a ∧ tR X.K cls W U r (isFresh T (.callIx fs i es)) ((ev T es r).bind fun y => (argsD y).bind fun ys => callF T k ys) σ H1 Q) I ?_) fun u s1 hq => ?_)
      · refine ⟨?_, fun p hp => tR_bind (tR_later q (Same.new hp)) fun x v H1 s1 p1 _ q1 => ?_⟩
        · have := Nat.le_of_ble_eq_true hl
          rw [List.length_map, l1, ← l2, sizeLine_eq]
          omega
        · cases x with
          | int z =>
            have hv := rp_int.mp p1
            subst hv
            simp only at q1
            split at q1
            · rename_i k e
              rw [Option.bind_eq_some_iff] at e
              obtain ⟨n, e1, e2⟩ := e
              obtain ⟨f, a, w1, w2, w3⟩ := hw n k e2
              refine .inl ⟨p, as.map V.ref, z, .ref a, rfl, rfl, SqL.of (s1 _ _ upd_same), ?_, n, k, a, rfl, e2, w2, q1⟩
              unfold atI
              have : L2.ixN (as.map V.ref).length z = some n := by rw [List.length_map, l1]; exact e1
              rw [this]
              simp [w2]
            · exact bad_elim q1
          | _ => exact bad_elim q1
      · obtain ⟨v, H1, I1, r1, n, k, a, rfl, e1, e2, q1⟩ := hq
        have hu : u = Value.ref a := r1
        subst hu
        obtain ⟨f, a', w1, w2, j', fd, hr, hkp, hb, hF⟩ := hw n k e1
        rw [e2] at w2
        cases w2
        refine PySem.W.callWith_K (h₀ := X.base) I.ok.mod.kin hkp (thn (pa.run pos pins s1 σ H1 _ I1 (tR_args q1 (Q' := fun vs H2 => spOf X.K cls f vs H2 Q (WE W σ)) fun ds vs H2 s2 p2 q2 => call_rd (fr := false) w1 (fun z => nomatch z) p2 q2)) fun us s2 ⟨vs, H2, I2, rv, q2⟩ => ⟨I2.kIn, ?_⟩) (star_cons (hst b (by simp))) (plain_any fun e he => hst e (by simp [he]))
        exact run_fnS hF hr hb (passAt g.tk σ) I2 rv q2
    · cases h
  · simp only [chk] at h
    split at h
    · exact fun _ => rfl
    · cases h
theorem snd_mm {mx : Bool} {a b : E} (ia : Snd T cls a) (ib : Snd T cls b) : Snd T cls (.mm mx a b) := by
  refine snd_val (fun {S X W} U r {pe} g h => ?_) (fun {S X W pe} g h => ?_) (fun _ _ _ => rfl) (fun _ _ => rfl) (fun _ _ _ _ => rfl)
  · simp only [chk] at h
    split at h
    · rename_i x p e f pos
      simp only [Bool.and_eq_true, decide_eq_true_eq] at h
      obtain ⟨⟨⟨rfl, h1⟩, h2⟩, h3⟩ := h
      have hst := chk_nostar h2
      have hst2 := chk_nostar h3
      have ha : PA X [e, f] (tCons (tR X.K cls W U r (isFresh T a) (ev T a r)) (tCons (tR X.K cls W U r (isFresh T b) (ev T b r)) tNil)) := pa_cons (ia.pe U r g h2) (pa_cons (ib.pe U r g h3) pa_nil (star_cons hst2)) (star_cons hst)
      have hp : (backTo pos (starEach [f] X.env)).any (·.1) = false := plain_any fun z hz => by
        rcases List.mem_singleton.mp hz with rfl
        exact hst2
      cases mx with
      | true =>
        refine PE.imp (pe_callB (call_max2 g.calm) (g.gl h1) (g.blt _ (by decide +kernel)) (boot_b1 .max) ha (by decide) (by decide) (star_cons hst) hp) fun σ H Q q => ?_
        simp only [ev] at q
        refine tR_bind q fun x v H1 s1 p1 _ q1 => tR_bind q1 fun y u H2 s2 p2 _ q2 => ?_
        cases x with
        | int i => cases y with
          | int j => exact ⟨i, j, by rw [rp_int.mp (p1.mono (hide_mono s2)), rp_int.mp p2], tR_int q2⟩
          | _ => exact bad_elim q2
        | _ => exact bad_elim q2
      | false =>
        refine PE.imp (pe_callB (call_min2 g.calm) (g.gl h1) (g.blt _ (by decide +kernel)) (boot_b1 .min) ha (by decide) (by decide) (star_cons hst) hp) fun σ H Q q => ?_
        simp only [ev] at q
        refine tR_bind q fun x v H1 s1 p1 _ q1 => tR_bind q1 fun y u H2 s2 p2 _ q2 => ?_
        cases x with
        | int i => cases y with
          | int j => exact ⟨i, j, by rw [rp_int.mp (p1.mono (hide_mono s2)), rp_int.mp p2], tR_int q2⟩
          | _ => exact bad_elim q2
        | _ => exact bad_elim q2
    · cases h
  · simp only [chk] at h
    split at h
    · exact fun _ => rfl
    · cases h
theorem snd_lz {es : E} (ie : Snd T cls es) : Snd T cls (.lz es) := by
  refine snd_val (fun {S X W} U r {pe} g h => ?_) (fun {S X W pe} g h => ?_) (fun _ _ _ => rfl) (fun _ _ => rfl) (fun _ _ _ _ => rfl)
  · simp only [chk] at h
    split at h
    · rename_i x p1 y p2 a b pos lpos
      simp only [Bool.and_eq_true, decide_eq_true_eq] at h
      obtain ⟨⟨⟨⟨rfl, rfl⟩, h1⟩, h2⟩, h3⟩ := h
      have hst := chkA_nostar h3
      refine PE.imp (pe_lz g.calm (g.gl h1) (g.blt _ (by decide +kernel)) (g.gl h2) (g.blt _ (by decide +kernel)) (ie.pa U r g h3) (star_cons (hst a (by simp))) (plain_any fun e he => hst e (by simp [he]))) fun σ H Q q => ?_
      simp only [ev] at q
      exact tR_args q fun ds vs H1 s1 p1 q1 => lz_rd p1 q1
    · cases h
  · simp only [chk] at h
    split at h
    · exact fun _ => rfl
    · cases h
theorem snd_sset {a : E} (ia : Snd T cls a) : Snd T cls (.sset a) := by
  refine snd_val (fun {S X W} U r {pe} g h => ?_) (fun {S X W pe} g h => ?_) (fun _ _ _ => rfl) (fun _ _ => rfl) (fun _ _ _ _ => rfl)
  · simp only [chk] at h
    split at h
    · rename_i x p1 y p2 e pos lpos
      simp only [Bool.and_eq_true, decide_eq_true_eq] at h
      obtain ⟨⟨⟨⟨rfl, rfl⟩, h1⟩, h2⟩, h3⟩ := h
      have hst := chk_nostar h3
      have ha : PA X [e] (tCons (tR X.K cls W U r (isFresh T a) (ev T a r)) tNil) := pa_cons (ia.pe U r g h3) pa_nil (star_cons hst)
      have hu := g.un
      have hs1 : PE X (.Call (.Name "set" p2) [e] [] pos) _ := pe_callTy (cr_setOfT g.calm (by omega)) (g.gl h2) (g.blt _ (by decide +kernel)) PyProof.Rows.boot_set ha (by decide) (by decide) (star_cons hst) rfl
      have ha2 : PA X [.Call (.Name "set" p2) [e] [] pos] _ := pa_cons hs1 pa_nil rfl
      refine PE.imp (pe_callB (cr_sortedT g.calm) (g.gl h1) (g.blt _ (by decide +kernel)) (boot_b1 .sorted) ha2 (by decide) (by decide) rfl rfl) fun σ H Q q => ?_
      simp only [ev] at q
      exact tR_bind q fun x v H1 s1 p1 _ q1 => ss_rd p1 q1
    · cases h
  · simp only [chk] at h
    split at h
    · exact fun _ => rfl
    · cases h
theorem snd_rng {es : E} (ie : Snd T cls es) : Snd T cls (.rng es) := by
  refine ⟨fun {S X W} U r {pe} g h => ?_, fun {S X W} U r {pe} g h => ?_, fun {S X W} U r {op vs pos} g h => nope (show false = true from h), fun {S X W} U r {pes} g h => nope (show false = true from h), fun {S X W} U r {tg pe} g h => ?_⟩
  · simp only [chk] at h
    split at h
    · simp at h
    · cases h
  · simp only [chk] at h
    split at h
    · simp at h
    · cases h
  · simp only [chk] at h
    split at h
    · rename_i x p as pos
      simp only [Bool.and_eq_true, decide_eq_true_eq] at h
      obtain ⟨⟨⟨h0, rfl⟩, h1⟩, h2⟩ := h
      have hst := chkA_nostar h2
      have pa := ie.pa U r g h2
      have hm := g.blt "range" (by decide +kernel)
      have fin : ∀ σ H R, tIt X.K cls W U r (ev T (.rng es) r) σ H R → tAr X.K cls W U r (ev T es r) σ H (fun vs H1 => (∃ j : Int, vs = [.int j] ∧ -(2 ^ 62) ≤ j ∧ j < 2 ^ 62 ∧ R (Itr 0 j.toNat) H1) ∨ ∃ i j : Int, vs = [.int i, .int j] ∧ (-(2 ^ 62) ≤ i ∧ i < 2 ^ 62 ∧ -(2 ^ 62) ≤ j ∧ j < 2 ^ 62) ∧ R (Itr i (j - i).toNat) H1) := fun σ H R q => by
        simp only [ev] at q
        refine tI_args q fun ds vs H1 s1 p1 q1 => ?_
        obtain ⟨l, o, q1⟩ := q1
        unfold rngD at q1
        split at q1
        · rename_i d e
          split at e
          · rename_i n
            split at e
            · rename_i hb
              cases e
              simp only [Bool.and_eq_true, decide_eq_true_eq] at hb
              obtain ⟨v, r1, rfl, p2, p3⟩ := p1.inv_cons
              have := p3.inv_nil
              subst this
              obtain ⟨xs, ex, q1⟩ := q1
              simp only [itemsD, Res.val.injEq] at ex
              subst ex
              exact .inl ⟨n, by rw [rp_int.mp p2], hb.1, hb.2, q1 _ H1 (Same.refl _) (walks_rng 0 _)⟩
            · cases e
          · rename_i m n
            split at e
            · rename_i hb
              cases e
              simp only [Bool.and_eq_true, decide_eq_true_eq] at hb
              obtain ⟨v, r1, rfl, p2, p3⟩ := p1.inv_cons
              obtain ⟨v', r2, rfl, p4, p5⟩ := p3.inv_cons
              have := p5.inv_nil
              subst this
              obtain ⟨xs, ex, q1⟩ := q1
              simp only [itemsD, Res.val.injEq] at ex
              subst ex
              exact .inr ⟨m, n, by rw [rp_int.mp p2, rp_int.mp p4], ⟨hb.1.1.1, hb.1.1.2, hb.1.2, hb.2⟩, q1 _ H1 (Same.refl _) (walks_rng m _)⟩
            · cases e
          · cases e
        · rename_i e
          split at e
          · split at e <;> cases e
          · split at e <;> cases e
          · cases e
        · exact q1.elim
      have dead : ∀ {vs : List V} {R : It → Hp → Prop} {H1 : Hp}, vs.length ≠ 1 → vs.length ≠ 2 → ((∃ j : Int, vs = [.int j] ∧ -(2 ^ 62) ≤ j ∧ j < 2 ^ 62 ∧ R (Itr 0 j.toNat) H1) ∨ ∃ i j : Int, vs = [.int i, .int j] ∧ (-(2 ^ 62) ≤ i ∧ i < 2 ^ 62 ∧ -(2 ^ 62) ≤ j ∧ j < 2 ^ 62) ∧ R (Itr i (j - i).toNat) H1) → False := fun {vs R H1} n1 n2 q => by
        rcases q with ⟨j, rfl, _⟩ | ⟨i, j, rfl, _⟩
        · exact n1 rfl
        · exact n2 rfl
      refine ⟨fun pins s σ H R I q => ?_⟩
      have q := fin σ H R q
      cases as with
      | nil =>
        have hes : es = .anil := by
          cases es <;> first | rfl | exact nope (show false = true from h2)
        subst hes
        obtain ⟨l, o, ds, e, q⟩ := q
        cases e
        exact (dead (vs := []) (by decide) (by decide) (q [] H (Same.refl _) .nil)).elim
      | cons b bs =>
        refine Call_ (ld_blt I (g.gl h1) hm PyProof.Rows.boot_range (PyProof.Rows.callWith_type1 (thn (pa.run pos pins s σ H _ I q) fun us s1 ⟨vs, H1, I1, r1, q1⟩ => ?_) (star_cons (hst b (by simp))) (plain_any fun e he => hst e (by simp [he]))))
        rcases q1 with ⟨j, rfl, q1, q2, q3⟩ | ⟨i, j, rfl, ⟨q1, q2, q3, q4⟩, q5⟩
        · cases r1 with
          | cons r rr =>
            cases rr
            obtain ⟨t, rfl⟩ := r
            refine call_range_1 (range_it I1 (by decide) (by decide) q1 q2 ?_)
            have e : (j - 0).toNat = j.toNat := by omega
            rw [e]
            exact q3
        · cases r1 with
          | cons r rr =>
            cases rr with
            | cons r' rr =>
              cases rr
              obtain ⟨t, rfl⟩ := r
              obtain ⟨t', rfl⟩ := r'
              exact call_range_2 (range_it I1 q1 q2 q3 q4 q5)
    · cases h

theorem snd_zip {es : E} (ie : Snd T cls es) : Snd T cls (.zip es) := by
  refine ⟨fun {S X W} U r {pe} g h => ?_, fun {S X W} U r {pe} g h => ?_, fun {S X W} U r {op vs pos} g h => nope (show false = true from h), fun {S X W} U r {pes} g h => nope (show false = true from h), fun {S X W} U r {tg pe} g h => ?_⟩
  · simp only [chk] at h
    split at h
    · simp at h
    · cases h
  · simp only [chk] at h
    split at h
    · simp at h
    · cases h
  · simp only [chk] at h
    split at h
    · rename_i x p b bs pos
      simp only [Bool.and_eq_true, decide_eq_true_eq, beq_iff_eq] at h
      obtain ⟨⟨⟨h0, rfl⟩, h1⟩, h2⟩ := h
      have hst := chkA_nostar h2
      have pa := ie.pa U r g h2
      have hm := g.blt "zip" (by decide +kernel)
      have htg : ∃ elts kk tpos, tg = .Tuple elts kk tpos := by
        cases tg <;> first | exact ⟨_, _, _, rfl⟩ | (simp [tgF] at h0)
      obtain ⟨elts, kk, tpos, rfl⟩ := htg
      refine PI.imp (pi_z (g.gl h1) hm pa (star_cons (hst b (by simp))) (plain_any fun e he => hst e (by simp [he]))) fun σ H R q => ?_
      simp only [ev] at q
      refine tI_args q fun ds vs H1 s1 p1 q1 => ?_
      obtain ⟨l, o, q1⟩ := q1
      match ds, p1, q1 with
      | [], _, q1 => exact q1.elim
      | [_], _, q1 => exact q1.elim
      | [a, b], p1, q1 =>
        obtain ⟨v1, r1, rfl, a1, p2⟩ := p1.inv_cons
        obtain ⟨v2, r2, rfl, a2, p3⟩ := p2.inv_cons
        have := p3.inv_nil
        subst this
        simp only [zipD] at q1
        cases e1 : itemsD a with
        | val xs =>
          cases e2 : itemsD b with
          | val ys =>
            rw [e1, e2] at q1
            obtain ⟨zs, ez, q1⟩ := q1
            simp only [itemsD, Res.val.injEq] at ez
            subst ez
            obtain ⟨a, k1, us, rfl, g1, g2, g3⟩ := items_rp e1 a1
            obtain ⟨b, k2, ws, rfl, g4, g5, g6⟩ := items_rp e2 a2
            exact .inl ⟨a, b, k1, k2, us, ws, rfl, SqX.mono (hide_le _ U) g3, SqX.mono (hide_le _ U) g6, q1 _ H1 (Same.refl _) (walks_z2 g2 g3 g5 g6)⟩
          | exc k => exact (items_noexc e2).elim
          | bad => rw [e1, e2] at q1; exact q1.elim
        | exc k => exact (items_noexc e1).elim
        | bad => rw [e1] at q1; exact q1.elim
      | [a, b, c], p1, q1 =>
        obtain ⟨v1, r1, rfl, a1, p2⟩ := p1.inv_cons
        obtain ⟨v2, r2, rfl, a2, p3⟩ := p2.inv_cons
        obtain ⟨v3, r3, rfl, a3, p4⟩ := p3.inv_cons
        have := p4.inv_nil
        subst this
        simp only [zipD] at q1
        cases e1 : itemsD a with
        | val xs =>
          cases e2 : itemsD b with
          | val ys =>
            cases e3 : itemsD c with
            | val zs =>
              rw [e1, e2, e3] at q1
              obtain ⟨ws, ez, q1⟩ := q1
              simp only [itemsD, Res.val.injEq] at ez
              subst ez
              obtain ⟨a, k1, us, rfl, g1, g2, g3⟩ := items_rp e1 a1
              obtain ⟨b, k2, ws, rfl, g4, g5, g6⟩ := items_rp e2 a2
              obtain ⟨c, k3, ts, rfl, g7, g8, g9⟩ := items_rp e3 a3
              exact .inr ⟨a, b, c, k1, k2, k3, us, ws, ts, rfl, SqX.mono (hide_le _ U) g3, SqX.mono (hide_le _ U) g6, SqX.mono (hide_le _ U) g9, q1 _ H1 (Same.refl _) (walks_z3 g2 g3 g5 g6 g8 g9)⟩
            | exc k => exact (items_noexc e3).elim
            | bad => rw [e1, e2, e3] at q1; exact q1.elim
          | exc k => exact (items_noexc e2).elim
          | bad => rw [e1, e2] at q1; exact q1.elim
        | exc k => exact (items_noexc e1).elim
        | bad => rw [e1] at q1; exact q1.elim
      | _ :: _ :: _ :: _ :: _, _, q1 => exact q1.elim
    · cases h
theorem snd_enm {a : E} (ia : Snd T cls a) : Snd T cls (.enm a) := by
  refine ⟨fun {S X W} U r {pe} g h => ?_, fun {S X W} U r {pe} g h => ?_, fun {S X W} U r {op vs pos} g h => nope (show false = true from h), fun {S X W} U r {pes} g h => nope (show false = true from h), fun {S X W} U r {tg pe} g h => ?_⟩
  · simp only [chk] at h
    split at h
    · simp at h
    · cases h
  · simp only [chk] at h
    split at h
    · simp at h
    · cases h
  · simp only [chk] at h
    split at h
    · rename_i x p e pos
      simp only [Bool.and_eq_true, decide_eq_true_eq, beq_iff_eq] at h
      obtain ⟨⟨⟨h0, rfl⟩, h1⟩, h2⟩ := h
      have hst := chk_nostar h2
      have pa : PA X [e] (tCons (tR X.K cls W U r (isFresh T a) (ev T a r)) tNil) := pa_cons (ia.pe U r g h2) pa_nil (star_cons hst)
      have hm := g.blt "enumerate" (by decide +kernel)
      have htg : ∃ elts kk tpos, tg = .Tuple elts kk tpos := by
        cases tg <;> first | exact ⟨_, _, _, rfl⟩ | (simp [tgF] at h0)
      obtain ⟨elts, kk, tpos, rfl⟩ := htg
      refine PI.imp (pi_en (g.gl h1) hm pa (star_cons hst)) fun σ H R q => ?_
      simp only [ev] at q
      refine tI_bind q fun x v H1 s1 p1 _ q1 => ?_
      obtain ⟨l, o, q1⟩ := q1
      cases e1 : itemsD x with
      | val xs =>
        rw [e1] at q1
        obtain ⟨zs, ez, q1⟩ := q1
        simp only [itemsD, Res.val.injEq] at ez
        subst ez
        obtain ⟨a, k1, us, rfl, g1, g2, g3⟩ := items_rp e1 p1
        exact ⟨a, k1, us, rfl, SqX.mono (hide_le _ U) g3, q1 _ H1 (Same.refl _) (walks_en g2 g3)⟩
      | exc k => exact (items_noexc e1).elim
      | bad => rw [e1] at q1; exact q1.elim
    · cases h

/-! ### a list comprehension -/
def stepF (T : Tb) (elt : E) (tg : Tg) (cond : E) (own : List (Str × Nat)) (r : Rho) (d : D) : Res (Option D) := match bindT tg d (wipe r (own.map (·.2))) with
  | some r1 => (if isAnil cond then .val true else (ev T cond r1).bind boolD : Res Bool).bind fun b => if b then (ev T elt r1).bind fun y => .val (some y) else .val none
  | none => .bad
theorem ev_lc (elt : E) (tg : Tg) (it cond : E) (own : List (Str × Nat)) (r : Rho) : ev T (.lc elt tg it cond own) r = (ev T it r).bind fun x => (itemsD x).bind fun xs => if big xs.length then (lcGo (stepF T elt tg cond own r) xs).bind fun ys => .val (.lst ys) else .bad := rfl
theorem PE.ex {α : Type} {e : Expr} {t : α → TE} (p : ∀ a, PE X e (t a)) : PE X e (fun σ H Q => ∃ a, t a σ H Q) := ⟨fun pins s σ H Q I ⟨a, q⟩ => (p a).run pins s σ H Q I q⟩
theorem PTs.ex {α : Type} {e : List Expr} {t : α → TT} (p : ∀ a, PTs X e (t a)) : PTs X e (fun σ H Q => ∃ a, t a σ H Q) := ⟨fun pins s σ H Q I ⟨a, q⟩ => (p a).run pins s σ H Q I q⟩
theorem PG.ex {α : Type} {e : Expr} {t : α → TG} (p : ∀ a, PG X e (t a)) : PG X e (fun v σ H Q => ∃ a, t a v σ H Q) := ⟨fun pins s σ H v u Q I r ⟨a, q⟩ => (p a).run pins s σ H v u Q I r q⟩
theorem lcGo_cons {f : D → Res (Option D)} {x : D} {xs zs : List D} (h : lcGo f (x :: xs) = .val zs) : ∃ o ys, f x = .val o ∧ lcGo f xs = .val ys ∧ zs = (match o with | some y => y :: ys | none => ys) := by
  simp only [lcGo] at h
  cases e : f x with
  | val o =>
    rw [e] at h
    cases e2 : lcGo f xs with
    | val ys =>
      rw [e2] at h
      simp only [Res.bind, Res.val.injEq] at h
      exact ⟨o, ys, rfl, rfl, h.symm⟩
    | exc k => rw [e2] at h; cases h
    | bad => rw [e2] at h; cases h
  | exc k => rw [e] at h; cases h
  | bad => rw [e] at h; cases h
theorem lcGo_noexc (f : D → Res (Option D)) : ∀ (xs : List D) (k : Nat), lcGo f xs = .exc k → False
  | [], k, h => by cases h
  | x :: xs, k, h => by
    simp only [lcGo] at h
    cases e : f x with
    | val o =>
      rw [e] at h
      cases e2 : lcGo f xs with
      | val ys => rw [e2] at h; cases h
      | exc k => exact lcGo_noexc f xs _ e2
      | bad => rw [e2] at h; cases h
    | exc k => rw [e] at h; cases h
    | bad => rw [e] at h; cases h
end
end CS

namespace CS
open PySem L2 PySem.Spec PyProof.Rows
section
variable {T : Tb} {cls : Nat → Option Addr} {S : Sx} {X : Cx} {W : WX} {U : AS} {r : Rho}
theorem tR_of_val {fr : Bool} {x : Res D} {d : D} {σ : L2.St} {H : Hp} {Q : VK} (e : x = .val d) (l : Live U H) (o : RhoOk X.K U σ H r) (k : ∀ v H', Same H H' → Rp X.K (hide H' U) d v → (fr = true → ∀ xs, d = .lst xs → Fresh X.K U H H' xs v) → Q v H') : tR X.K cls W U r fr x σ H Q := by
  subst e
  exact ⟨l, o, k⟩
theorem foldedSet_plain {e : E} {n : Nat} {pe : Expr} (h : chk T e S n pe = true) (env : PySem.Env) : ∀ x, foldedSetIterable pe env x = pure x := by
  intro x
  cases pe <;> first | rfl | (cases e <;> simp [chk] at h)
/-- a list comprehension's parts -/
theorem lc_parts {elt : E} {tg : Tg} {it cond : E} {own : List (Str × Nat)} (ie : Snd T cls elt) (ii : Snd T cls it) (ic : Snd T cls cond) (g : Gd T cls S X W) {n : Nat} {pelt ptg piter : Expr} {ifs : List Expr} {z : Int} {scope : Scope} {pos : Pos}
    (h : chk T (.lc elt tg it cond own) S n (.ListComp pelt [⟨ptg, piter, ifs, z⟩] scope pos) = true) :
    z = 0 ∧ BlkOk X.N X.env.scope scope own ∧ (∀ x, foldedSetIterable piter X.env x = pure x) ∧ ∃ (wi : TI) (gR : TG) (ttR : TT) (teR : TE), PI X ptg piter wi ∧
      (∀ (s : Shared) (H : Hp) (C : Addr) (cl : List (Str × Addr)) (fp : List Addr), PG (X.blk s H scope (compEnvC scope cl C X.env) fp) ptg gR) ∧
      (∀ (s : Shared) (H : Hp) (C : Addr) (cl : List (Str × Addr)) (fp : List Addr), PTs (X.blk s H scope (compEnvC scope cl C X.env) fp) ifs ttR) ∧
      (∀ (s : Shared) (H : Hp) (C : Addr) (cl : List (Str × Addr)) (fp : List Addr), PE (X.blk s H scope (compEnvC scope cl C X.env) fp) pelt teR) ∧
      ∀ σ H Q, tR X.K cls W U r true (ev T (.lc elt tg it cond own) r) σ H Q → tLc wi gR ttR teR (own.map (·.2)) σ H Q := by
  simp only [chk] at h
  simp only [Bool.and_eq_true, decide_eq_true_eq] at h
  obtain ⟨⟨⟨⟨⟨rfl, hblk⟩, hit⟩, htg⟩, hcond⟩, helt⟩ := h
  have ok : BlkOk X.N X.env.scope scope own := by
    rw [g.hN, g.sc]
    exact blkOk_by hblk
  let vs := own.map (·.2)
  let W0 : WX := fun _ _ _ _ => False
  let gR : TG := fun v σ H Q => ∃ U' : AS, tGq X.K U' (fun i => vs.contains i) tg v σ H Q
  let teR : TE := fun σ H Q => ∃ p : AS × Rho, tR X.K cls W0 p.1 p.2 (isFresh T elt) (ev T elt p.2) σ H Q
  have hg : ∀ (s : Shared) (H : Hp) (C : Addr) (cl : List (Str × Addr)) (fp : List Addr), PG (X.blk s H scope (compEnvC scope cl C X.env) fp) ptg gR := fun s H C cl fp =>
    PG.ex fun U' => pg_ok (g.blk s H scope cl C fp) U' tg htg
  have he : ∀ (s : Shared) (H : Hp) (C : Addr) (cl : List (Str × Addr)) (fp : List Addr), PE (X.blk s H scope (compEnvC scope cl C X.env) fp) pelt teR := fun s H C cl fp =>
    PE.ex fun p => ie.pe p.1 p.2 (g.blk s H scope cl C fp) helt
  obtain ⟨ttR, ht, htt⟩ : ∃ ttR : TT, (∀ (s : Shared) (H : Hp) (C : Addr) (cl : List (Str × Addr)) (fp : List Addr), PTs (X.blk s H scope (compEnvC scope cl C X.env) fp) ifs ttR) ∧
      ∀ (U' : AS) (r1 : Rho) (b : Bool) (σ : L2.St) (H : Hp) (Q : Bool → Hp → Prop), (if isAnil cond then .val true else (ev T cond r1).bind boolD : Res Bool) = .val b → Live U' H → RhoOk X.K U' σ H r1 → (∀ H', Same H H' → Q b H') → ttR σ H Q := by
    cases ifs with
    | nil =>
      have hcond : isAnil cond = true := hcond
      refine ⟨tYes, fun s H C cl fp => pts_nil, fun U' r1 b σ H Q e l o k => ?_⟩
      rw [hcond] at e
      cases e
      exact k H (Same.refl _)
    | cons ce rest =>
      cases rest with
      | cons _ _ => exact nope (show false = true from hcond)
      | nil =>
        simp only [Bool.and_eq_true, Bool.not_eq_true'] at hcond
        refine ⟨fun σ H Q => ∃ p : AS × Rho, tT X.K cls W0 p.1 p.2 (ev T cond p.2) σ H Q, fun s H C cl fp => PTs.ex fun p => pts_one (ic.pt p.1 p.2 (g.blk s H scope cl C fp) hcond.2), fun U' r1 b σ H Q e l o k => ⟨(U', r1), l, o, ?_⟩⟩
        rw [hcond.1, if_neg Bool.false_ne_true] at e
        cases e2 : ev T cond r1 with
        | val d =>
          rw [e2] at e
          cases d with
          | bl c => cases e; exact ⟨b, rfl, k⟩
          | _ => cases e
        | exc k => rw [e2] at e; cases e
        | bad => rw [e2] at e; cases e
  refine ⟨rfl, ok, foldedSet_plain hit X.env, _, gR, ttR, teR, ii.pi U r g hit, hg, ht, he, fun σ H Q q => ?_⟩
  rw [ev_lc] at q
  show tIt X.K cls W U r (ev T it r) σ H _
  obtain ⟨l0, o0, q⟩ := q
  refine ⟨l0, o0, ?_⟩
  cases ei : ev T it r with
  | bad => rw [ei] at q; exact q.elim
  | exc k => rw [ei] at q; exact q
  | val x =>
    rw [ei] at q
    cases ex : itemsD x with
    | exc k => exact (items_noexc ex).elim
    | bad => simp only [Res.bind, ex] at q
    | val xs =>
      simp only [Res.bind, ex] at q
      refine ⟨xs, ex, fun J H1 s1 wk D hD => ?_⟩
      by_cases hb : big xs.length = true
      · rw [if_pos hb] at q
        cases el : lcGo (stepF T elt tg cond own r) xs with
        | exc k => exact (lcGo_noexc _ _ _ el).elim
        | bad => rw [el] at q; exact q.elim
        | val ys =>
          rw [el] at q
          have hbig := big_le hb
          let U' : AS := fun b => U b ∨ b = D
          have l1 : Live U H1 := l0.mono s1
          have o1 : RhoOk X.K U σ H1 r := o0.mono s1
          -- what stands through the loop
          refine ⟨fun i m H2 => m = xs.length - i ∧ i ≤ xs.length ∧ ∃ acc us rest, H2 D = some (.lst us) ∧ RpAll X.K (hide H2 U') acc us ∧ Same (hide H1 U) (hide H2 U') ∧ Same H1 H2 ∧ acc.length ≤ i ∧ lcGo (stepF T elt tg cond own r) (xs.drop i) = .val rest ∧ acc ++ rest = ys, ⟨xs.length, by simp, Nat.zero_le _, [], [], ys, upd_same, .nil, ?_, Same.new hD, Nat.le_refl _, by simpa using el, rfl⟩, ?_⟩
          · intro a o e
            obtain ⟨n1, e⟩ := hide_some e
            have ha : a ≠ D := ne_of_none e hD
            rw [hide_out (fun z => z.elim n1 ha), upd_ne ha]
            exact e
          · rintro i m H2 ⟨rfl, hi, acc, us, rest, e1, e2, e3, e4, e5, e6, e7⟩
            have l2 : Live U' H2 := fun a ha => by
              rcases ha with ha | ha
              · exact (l1.mono e4) a ha
              · subst ha; rw [e1]; simp
            obtain ⟨w1, w2⟩ := wk U' H2 e3 l2
            by_cases hlt : i < xs.length
            · obtain ⟨go, wy⟩ := w1 i hlt
              refine .inr ⟨go, fun H' => i + 1 ≤ xs.length ∧ ∃ acc us rest, H' D = some (.lst us) ∧ RpAll X.K (hide H' U') acc us ∧ Same (hide H1 U) (hide H' U') ∧ Same H1 H' ∧ acc.length ≤ i + 1 ∧ lcGo (stepF T elt tg cond own r) (xs.drop (i + 1)) = .val rest ∧ acc ++ rest = ys, fun H' hN => ⟨xs.length - (i + 1), by omega, rfl, hN⟩, fun v H3 yl => ?_⟩
              obtain ⟨s3, d, hd, pd⟩ := wy v H3 yl
              have hdrop : xs.drop i = d :: xs.drop (i + 1) := by
                obtain ⟨_, he⟩ := List.getElem?_eq_some_iff.mp hd
                rw [List.drop_eq_getElem_cons hlt, he]
              rw [hdrop] at e6
              obtain ⟨oo, ys', f1, f2, f3⟩ := lcGo_cons e6
              -- the target
              unfold stepF at f1
              cases hbt : bindT tg d (wipe r (own.map (·.2))) with
              | none => rw [hbt] at f1; cases f1
              | some r1 =>
                rw [hbt] at f1
                simp only at f1
                unfold bindT at hbt
                rw [Option.map_eq_some_iff] at hbt
                obtain ⟨fl, hfl, hr1⟩ := hbt
                have l3 : Live U' H3 := l2.mono s3
                have o3 : RhoOk X.K U' (L2.wipe σ vs) H3 (wipe r vs) := by
                  have : RhoOk X.K U' σ H3 r := ⟨o1.1, fun j dd hj => by
                    obtain ⟨vv, a1, a2⟩ := o1.2 j dd hj
                    exact ⟨vv, a1, a2.mono (e3.trans (hide_mono s3))⟩⟩
                  exact this.wipe vs
                refine ⟨U', d, fl, hfl, pd, fun as has => ⟨?_, ?_⟩⟩
                · rw [wipe_setV fl as _ has, wipe_idem]
                · have o4 : RhoOk X.K U' (setV (L2.wipe σ vs) as) H3 r1 := by
                    rw [← hr1]
                    exact RhoOk.sets fl as o3 has
                  cases hcb : (if isAnil cond then .val true else (ev T cond r1).bind boolD : Res Bool) with
                  | exc k => rw [hcb] at f1; cases f1
                  | bad => rw [hcb] at f1; cases f1
                  | val b =>
                    rw [hcb] at f1
                    simp only [Res.bind] at f1
                    refine htt U' r1 b _ H3 _ hcb l3 o4 fun H4 s4 => ?_
                    cases b with
                    | false =>
                      rw [if_neg Bool.false_ne_true] at f1 ⊢
                      cases f1
                      have s34 := s3.trans s4
                      refine ⟨by omega, acc, us, ys', s34 _ _ e1, e2.mono (hide_mono s34), e3.trans (hide_mono s34), e4.trans s34, by omega, f2, ?_⟩
                      rw [← e7, f3]
                    | true =>
                      rw [if_pos rfl] at f1 ⊢
                      cases hev : ev T elt r1 with
                      | exc k => rw [hev] at f1; cases f1
                      | bad => rw [hev] at f1; cases f1
                      | val y =>
                        rw [hev] at f1
                        simp only [Res.val.injEq] at f1
                        refine ⟨(U', r1), tR_of_val hev (l3.mono s4) (o4.mono s4) fun v5 H5 s5 p5 _ => ?_⟩
                        have s35 := (s3.trans s4).trans s5
                        have hl := e2.length
                        refine ⟨us, s35 _ _ e1, by omega, by omega, acc ++ [y], us ++ [v5], ys', upd_same, ?_, ?_, ?_, by simp; omega, f2, ?_⟩
                        · have hs : Same (hide H5 U') (hide (upd H5 D (.lst (us ++ [v5]))) U') := fun a o e => by
                            obtain ⟨n1, e⟩ := hide_some e
                            have ha : a ≠ D := fun z => n1 (.inr z)
                            rw [hide_out n1, upd_ne ha]
                            exact e
                          exact ((e2.mono (hide_mono s35)).mono hs).app (.cons (p5.mono hs) .nil)
                        · intro a o e
                          have e := hide_mono s35 _ _ (e3 a o e)
                          obtain ⟨n1, e⟩ := hide_some e
                          have ha : a ≠ D := fun z => n1 (.inr z)
                          rw [hide_out n1, upd_ne ha]
                          exact e
                        · intro a o e
                          have ha : a ≠ D := ne_of_none e hD
                          rw [upd_ne ha]
                          exact s35 _ _ (e4 a o e)
                        · rw [← e7, f3, ← f1]
                          simp
            · have hi' : i = xs.length := by omega
              subst hi'
              refine .inl ⟨w2, ?_⟩
              rw [List.drop_length] at e6
              cases e6
              rw [List.append_nil] at e7
              subst e7
              refine q (.ref D) H2 (s1.trans e4) ?_ fun _ zs hz => ?_
              · simp only [Rp]
                refine ⟨D, us, rfl, ?_, e2.mono (hide_anti fun a ha => .inl ha)⟩
                rw [hide_out (l1.not hD)]
                exact e1
              · cases hz
                exact ⟨D, us, rfl, s1.free hD, e1, e2⟩
      · rw [if_neg hb] at q
        exact q.elim

theorem snd_lc {elt : E} {tg : Tg} {it cond : E} {own : List (Str × Nat)} (ie : Snd T cls elt) (ii : Snd T cls it) (ic : Snd T cls cond) : Snd T cls (.lc elt tg it cond own) := by
  refine snd_val (fun {S X W} U r {pe} g h => ?_) (fun {S X W pe} g h => ?_) (fun _ _ _ => rfl) (fun _ _ => rfl) (fun _ _ _ _ => rfl)
  · have h' := h
    simp only [chk] at h
    split at h
    · obtain ⟨rfl, ok, hs, wi, gR, ttR, teR, h1, h2, h3, h4, h5⟩ := lc_parts (U := U) (r := r) ie ii ic g h'
      exact PE.imp (pe_lc g.calm g.nd h1 ok h2 h3 h4 hs) h5
    · cases h
  · simp only [chk] at h
    split at h
    · exact fun _ => rfl
    · cases h

/-- THE SOUNDNESS of expressions -/
theorem snd (e : E) : Snd T cls e := by
  induction e with
  | non => exact snd_non
  | bl b => exact snd_bl b
  | int i => exact snd_int i
  | str s => exact snd_str s
  | var i => exact snd_var i
  | gc k => exact snd_gc k
  | anil => exact snd_anil
  | acons a es ia ie => exact snd_acons ia ie
  | tup es ie => exact snd_tup ie
  | lst es ie => exact snd_lst ie
  | bin o a b ia ib => exact snd_bin ia ib
  | neg a ia => exact snd_neg ia
  | not a ia => exact snd_not ia
  | and a b ia ib => exact snd_and ia ib
  | or a b ia ib => exact snd_or ia ib
  | cmp o a b ia ib => exact snd_cmp ia ib
  | chain o o' a b c ia ib ic => exact snd_chain ia ib ic
  | ife c a b ic ia ib => exact snd_ife ic ia ib
  | ix a i ia ii => exact snd_ix ia ii
  | sl a lo hi ia il ih => exact snd_sl ia il ih
  | rev a ia => exact snd_rev ia
  | b1 f a ia => exact snd_b1 ia
  | isi a k ia => exact snd_isi ia
  | call f es ie => exact snd_call ie
  | callIf c f g es ic ie => exact snd_callIf ic ie
  | callIx fs i es ii ie => exact snd_callIx ii ie
  | mm mx a b ia ib => exact snd_mm ia ib
  | lz es ie => exact snd_lz ie
  | sset a ia => exact snd_sset ia
  | rng es ie => exact snd_rng ie
  | zip es ie => exact snd_zip ie
  | enm a ia => exact snd_enm ia
  | lc elt tg it cond own ie ii ic => exact snd_lc ie ii ic
end
end CS

/-! statements -/
namespace CS
open PySem L2 PySem.Spec PyProof.Rows

/-! ### the checker -/
/-- an env of a scope, the rest as nothing -/
def dEnv (sc : Scope) : PySem.Env := { scope := sc, locals := 0, globals := 0, cells := [] }
/-- the stores of a, b = x, y: some names: from the right, without the tuple; none: as usual; the outer none: not told -/
def swP (sc : Scope) (tg v : Expr) : Option (Option (List Str)) := match swappedStores [tg] v (dEnv sc) with
  | .pure r => some r
  | _ => none
theorem swP_ok {env : PySem.Env} {tg v : Expr} {r : Option (List Str)} (h : swP env.scope tg v = some r) : swappedStores [tg] v env = pure r := by
  have e : swappedStores [tg] v env = swappedStores [tg] v (dEnv env.scope) := rfl
  rw [e]
  unfold swP at h
  split at h
  · rename_i r' e'
    cases h
    exact e'
  · cases h
/-- is a value used at once by its store (a comprehension to a local, on one line)? -/
def swB (sc : Scope) (e : Expr) (t : Str) (tl : Nat) : Bool := match e with
  | .ListComp _ _ s p => sc.names.lookup t == some .local && tl == p.line && !(s.names.any fun (n, k) => n == t && (k == .local || k == .cell))
  | _ => false
def isComp : Expr → Bool
  | .ListComp .. => true | .SetComp .. => true | .DictComp .. => true
  | _ => false
def isTupE : Expr → Bool
  | .Tuple .. => true
  | _ => false
def ownSlots (S : Sx) : List (Nat × Bool) → List Expr → Bool
  | [], [] => true
  | (i, _) :: ts, .Name x _ :: es => atN S i x && stoN S x && ownSlots S ts es
  | _, _ => false
def locNames (sc : Scope) : List Expr → Option (List Str)
  | [] => some []
  | .Name x _ :: es => match sc.names.lookup x with | some .local => (locNames sc es).map (x :: ·) | _ => none
  | _ :: _ => none
def distinct : List Nat → Bool
  | [] => true
  | x :: xs => !xs.contains x && distinct xs

/-- isinstance(n, C), one by one -/
def chkIs (T : Tb) (S : Sx) (n : Str) : List Nat → List Expr → Bool
  | [], [] => true
  | k :: ks, .Call (.Name x _) [.Name m _, .Name y _] [] _ :: es => decide (x = "isinstance") && glN S.sc x && decide (m = n) && (match T.exs[k]? with | some z => decide (z = y) | none => false) && glN S.sc y && plainN y && !(k == 0) && chkIs T S n ks es
  | _, _ => false
/-- what an except clause gives back -/
def chkSu (T : Tb) (S : Sx) (n : Str) (il : Nat) : List (List Nat) → List Stmt → Bool
  | [c], [.Return (some (.Call (.Attribute (.List es _) m ap) [.Constant (.bool b) _ _] [] cp)) _] => b && decide (m = "index") && ap.endLine == cp.line && Nat.ble es.length 1000 && chkIs T S n c es
  | [c1, c2, c3], [.Assign [.Name f1 _] (.List e1 _) _, .Assign [.Name f2 _] (.BinOp (.Name f3 _) .Add (.List e2 _) _) _, .Return (some (.Call (.Attribute (.BinOp (.Name f4 _) .Add (.List e3 _) _) m ap) [.Constant (.bool b) _ _] [] cp)) _] =>
    b && decide (m = "index") && ap.endLine == cp.line && Nat.ble e1.length 1000 && Nat.ble e2.length 1000 && Nat.ble e3.length 1000 && chkIs T S n c1 e1 && chkIs T S n c2 e2 && chkIs T S n c3 e3 &&
      atN S il f1 && stoN S f1 && plainN f1 && decide (f2 = f1) && decide (f3 = f1) && decide (f4 = f1) && !decide (f1 = n)
  | _, _ => false
mutual
def chkS (T : Tb) (S : Sx) : CS.S → Stmt → Bool
  | .asg t e _ _ _ => fun st => match st with
    | .Assign [tg] v _ => !(isTupE v && isTupE tg) && chkT S (fun _ => true) t tg && chk T e S 0 v
    | _ => false
  | .par ts es _ => fun st => match st with
    | .Assign [.Tuple tgs k1 p1] (.Tuple vs k2 p2) _ => Nat.ble ts.length 1000 && ownSlots S ts tgs && distinct (ts.map (·.1)) && chkA T es S vs && (match swP S.sc (.Tuple tgs k1 p1) (.Tuple vs k2 p2) with
        | some none => true
        | some (some ns) => decide (locNames S.sc tgs = some ns) && (ns.length == 2 || ns.length == 3)
        | none => false)
    | _ => false
  | .setix x i e => fun st => match st with
    | .Assign [.Subscript (.Name n _) j _] v _ => (match j with | .Slice .. => false | _ => true) && !isComp v && atN S x n && visN S.sc n && plainN n && chk T i S 0 j && chk T e S 0 v
    | _ => false
  | .augix x i e => fun st => match st with
    | .AugAssign (.Subscript (.Name n _) j _) .Add v _ => (match j with | .Slice .. => false | _ => true) && atN S x n && visN S.sc n && plainN n && chk T i S 0 j && chk T e S 0 v
    | _ => false
  | .app x e => fun st => match st with
    | .Expr (.Call (.Attribute (.Name n _) m ap) [v] [] cp) _ => decide (m = "append") && ap.endLine == cp.line && atN S x n && visN S.sc n && plainN n && chk T e S 0 v
    | _ => false
  | .ext x e => fun st => match st with
    | .Expr (.Call (.Attribute (.Name n _) m ap) [v] [] cp) _ => decide (m = "extend") && ap.endLine == cp.line && atN S x n && visN S.sc n && plainN n && chk T e S 0 v
    | _ => false
  | .drop e => fun st => match st with | .Expr v _ => !isComp v && chk T e S 0 v | _ => false
  | .ret e => fun st => match st with | .Return (some v) _ => chk T e S 0 v | _ => false
  | .retO x => fun st => match st with | .Return (some (.Name n _)) _ => atN S x n && visN S.sc n && plainN n | _ => false
  | .retN => fun st => match st with | .Return none _ => true | _ => false
  | .iff c a b => fun st => match st with | .If t l r _ => chk T c S 0 t && chkSs T S a l && chkSs T S b r | _ => false
  | .forr t it _ body => fun st => match st with | .For tg i l [] _ => chkT S (fun _ => true) t tg && chk T it S (tgF tg) i && chkSs T S body l | _ => false
  | .whil c body => fun st => match st with | .While t l [] _ => chk T c S 0 t && chkSs T S body l | _ => false
  | .rais k m => fun st => match st with
    | .Raise (some (.Call (.Name x _) [.Constant (.str u) _ _] [] _)) none _ => decide (m = u) && (match T.exs[k]? with | some y => decide (y = x) | none => false) && glN S.sc x && plainN x
    | _ => false
  | .tryE b ie il cs => fun st => match st with
    | .Try body [.ExceptHandler (some (.Name x _)) (some n) suite _] [] [] _ => chkSs T S b body && atN S ie n && S.sc.names.lookup n == some .local && plainN n && (match T.exs[0]? with | some z => decide (z = x) | none => false) && glN S.sc x && plainN x && chkSu T S n il cs suite
    | _ => false
  | .done => fun _ => false
  | .seq _ _ => fun _ => false
def chkSs (T : Tb) (S : Sx) : CS.S → List Stmt → Bool
  | .done => fun sts => match sts with | [] => true | _ :: _ => false
  | .seq s r => fun sts => match sts with | st :: rest => chkS T S s st && chkSs T S r rest | [] => false
  | _ => fun _ => false
end

/-! ### the state -/
def OwnA (env : Env) (σ : L2.St) : AS := fun a => ∃ (i : Nat) (d : D), env[i]? = some (some (d, true)) ∧ σ[i]? = some (some (V.ref a))
def AU (U0 : AS) (env : Env) (σ : L2.St) : AS := fun a => U0 a ∨ OwnA env σ a
structure SOk (K : PySem.W.Frag) (U0 : AS) (H0 F : Hp) (σ : L2.St) (H : Hp) (env : Env) : Prop where
  len : env.length = σ.length
  same : Same H0 H
  live : Live U0 H0
  val : ∀ (i : Nat) (d : D), env[i]? = some (some (d, false)) → ∃ v, σ[i]? = some (some v) ∧ Rp K (hide H (AU U0 env σ)) d v
  own : ∀ (i : Nat) (d : D), env[i]? = some (some (d, true)) → ∃ a xs vs, d = .lst xs ∧ σ[i]? = some (some (V.ref a)) ∧ H a = some (.lst vs) ∧ H0 a = none ∧ RpAll K (hide H (AU U0 env σ)) xs vs
  inj : ∀ (i j : Nat) (d e : D) (a : Addr), env[i]? = some (some (d, true)) → env[j]? = some (some (e, true)) → σ[i]? = some (some (V.ref a)) → σ[j]? = some (some (V.ref a)) → i = j
  keep : Same F (hide H (AU U0 env σ))
section
variable {K : PySem.W.Frag} {U0 : AS} {H0 F : Hp} {σ : L2.St} {H : Hp} {env : Env}
theorem SOk.liveH (o : SOk K U0 H0 F σ H env) : Live U0 H := o.live.mono o.same
theorem SOk.ownL (o : SOk K U0 H0 F σ H env) {a : Addr} (h : OwnA env σ a) : (∃ vs, H a = some (.lst vs)) ∧ H0 a = none := by
  obtain ⟨i, d, e1, e2⟩ := h
  obtain ⟨b, xs, vs, _, e3, e4, e5, _⟩ := o.own i d e1
  rw [e2] at e3
  cases e3
  exact ⟨⟨vs, e4⟩, e5⟩
theorem SOk.liveA (o : SOk K U0 H0 F σ H env) : Live (AU U0 env σ) H := fun a h => by
  rcases h with h | h
  · exact o.liveH a h
  · obtain ⟨⟨vs, e⟩, _⟩ := o.ownL h
    rw [e]; simp
theorem SOk.mono (o : SOk K U0 H0 F σ H env) {H' : Hp} (s : Same H H') : SOk K U0 H0 F σ H' env where
  len := o.len
  same := o.same.trans s
  live := o.live
  val := fun i d e => by
    obtain ⟨v, e1, e2⟩ := o.val i d e
    exact ⟨v, e1, e2.mono (hide_mono s)⟩
  own := fun i d e => by
    obtain ⟨a, xs, vs, e1, e2, e3, e4, e5⟩ := o.own i d e
    exact ⟨a, xs, vs, e1, e2, s _ _ e3, e4, e5.mono (hide_mono s)⟩
  inj := o.inj
  keep := o.keep.trans (hide_mono s)
theorem visE_get {i : Nat} {d : D} (h : (visE env)[i]? = some (some d)) : ∃ b, env[i]? = some (some (d, b)) := by
  unfold visE at h
  rw [List.getElem?_map] at h
  cases e : env[i]? with
  | none => rw [e] at h; cases h
  | some o =>
    rw [e] at h
    cases o with
    | none => cases h
    | some p =>
      obtain ⟨x, b⟩ := p
      simp at h
      subst h
      exact ⟨b, rfl⟩
theorem hidE_get {i : Nat} {d : D} (h : (hidE env)[i]? = some (some d)) : env[i]? = some (some (d, false)) := by
  unfold hidE at h
  rw [List.getElem?_map] at h
  cases e : env[i]? with
  | none => rw [e] at h; cases h
  | some o =>
    rw [e] at h
    cases o with
    | none => cases h
    | some p =>
      obtain ⟨x, b⟩ := p
      cases b with
      | true => cases h
      | false => simp at h; subst h; rfl
theorem SOk.own_rp (o : SOk K U0 H0 F σ H env) {i : Nat} {d : D} (e : env[i]? = some (some (d, true))) : ∃ v, σ[i]? = some (some v) ∧ Rp K (hide H U0) d v := by
  obtain ⟨a, xs, vs, rfl, e2, e3, e4, e5⟩ := o.own i d e
  refine ⟨.ref a, e2, ?_⟩
  simp only [Rp]
  refine ⟨a, vs, rfl, ?_, e5.mono (hide_anti fun b h => .inl h)⟩
  rw [hide_out (o.live.not e4)]
  exact e3
/-- all names are seen -/
theorem SOk.rho (o : SOk K U0 H0 F σ H env) : RhoOk K U0 σ H (visE env) := ⟨by simp [visE, o.len], fun i d h => by
  obtain ⟨b, e⟩ := visE_get h
  cases b with
  | true => exact o.own_rp e
  | false =>
    obtain ⟨v, e1, e2⟩ := o.val i d e
    exact ⟨v, e1, e2.mono (hide_anti fun b h => .inl h)⟩⟩
/-- the owned names are not seen -/
theorem SOk.rhoH (o : SOk K U0 H0 F σ H env) : RhoOk K (AU U0 env σ) σ H (hidE env) := ⟨by simp [hidE, o.len], fun i d h => o.val i d (hidE_get h)⟩
theorem SOk.flat (o : SOk K U0 H0 F σ H env) {d : D} {v : V} (f : d.flat = true) (p : Rp K (hide H U0) d v) : Rp K (hide H (AU U0 env σ)) d v := by
  have := Rp.hid (U := OwnA env σ) (fun a h => by
    obtain ⟨⟨vs, e⟩, e0⟩ := o.ownL h
    exact ⟨vs, by rw [hide_out (o.live.not e0)]; exact e⟩) d v f p
  refine this.mono fun a u e => ?_
  obtain ⟨n1, e⟩ := hide_some e
  obtain ⟨n2, e⟩ := hide_some e
  rw [hide_out (fun z => z.elim n2 n1)]
  exact e
theorem SOk.flats (o : SOk K U0 H0 F σ H env) {d : List D} {v : List V} (f : D.flats d = true) (p : RpAll K (hide H U0) d v) : RpAll K (hide H (AU U0 env σ)) d v := by
  have := RpAll.hid (U := OwnA env σ) (fun a h => by
    obtain ⟨⟨vs, e⟩, e0⟩ := o.ownL h
    exact ⟨vs, by rw [hide_out (o.live.not e0)]; exact e⟩) d v f p
  refine this.mono fun a u e => ?_
  obtain ⟨n1, e⟩ := hide_some e
  obtain ⟨n2, e⟩ := hide_some e
  rw [hide_out (fun z => z.elim n2 n1)]
  exact e

/-- an owned name is given up -/
theorem SOk.frz1 (o : SOk K U0 H0 F σ H env) {i : Nat} {d : D} {b : Bool} (e : env[i]? = some (some (d, b))) : SOk K U0 H0 F σ H (env.set i (some (d, false))) := by
  have hi : i < env.length := (List.getElem?_eq_some_iff.mp e).1
  have sub : ∀ a, AU U0 (env.set i (some (d, false))) σ a → AU U0 env σ a := fun a h => by
    rcases h with h | ⟨j, d', e1, e2⟩
    · exact .inl h
    · by_cases hj : i = j
      · subst hj
        rw [List.getElem?_set_self hi] at e1
        cases e1
      · rw [List.getElem?_set_ne hj] at e1
        exact .inr ⟨j, d', e1, e2⟩
  refine ⟨by simp [o.len], o.same, o.live, fun j d' h => ?_, fun j d' h => ?_, fun j k d1 d2 a h1 h2 => ?_, o.keep.trans (hide_anti sub)⟩
  · by_cases hj : i = j
    · subst hj
      rw [List.getElem?_set_self hi] at h
      cases h
      cases b with
      | false =>
        obtain ⟨v, e1, e2⟩ := o.val i _ e
        exact ⟨v, e1, e2.mono (hide_anti sub)⟩
      | true =>
        obtain ⟨a, xs, vs, rfl, e2, e3, e4, e5⟩ := o.own i _ e
        refine ⟨.ref a, e2, ?_⟩
        simp only [Rp]
        refine ⟨a, vs, rfl, ?_, e5.mono (hide_anti sub)⟩
        rw [hide_out, e3]
        rintro (z | ⟨j, d', z1, z2⟩)
        · exact o.live.not e4 z
        · by_cases hj : i = j
          · subst hj
            rw [List.getElem?_set_self hi] at z1
            cases z1
          · rw [List.getElem?_set_ne hj] at z1
            exact hj (o.inj i j _ _ a e z1 e2 z2)
    · rw [List.getElem?_set_ne hj] at h
      obtain ⟨v, e1, e2⟩ := o.val j d' h
      exact ⟨v, e1, e2.mono (hide_anti sub)⟩
  · by_cases hj : i = j
    · subst hj
      rw [List.getElem?_set_self hi] at h
      cases h
    · rw [List.getElem?_set_ne hj] at h
      obtain ⟨a, xs, vs, e1, e2, e3, e4, e5⟩ := o.own j d' h
      exact ⟨a, xs, vs, e1, e2, e3, e4, e5.mono (hide_anti sub)⟩
  · by_cases hj : i = j
    · subst hj
      rw [List.getElem?_set_self hi] at h1
      cases h1
    · by_cases hk : i = k
      · subst hk
        rw [List.getElem?_set_self hi] at h2
        cases h2
      · rw [List.getElem?_set_ne hj] at h1
        rw [List.getElem?_set_ne hk] at h2
        exact o.inj j k d1 d2 a h1 h2
theorem SOk.frz (o : SOk K U0 H0 F σ H env) : ∀ fz : List Nat, SOk K U0 H0 F σ H (CS.frz env fz)
  | [] => o
  | i :: is => by
    have ih := SOk.frz o is
    simp only [CS.frz]
    split
    · rename_i d b e
      exact ih.frz1 e
    · exact ih
/-- a name gets a value that is not owned -/
theorem SOk.store (o : SOk K U0 H0 F σ H env) {i : Nat} {d : D} {v : V} (p : Rp K (hide H (AU U0 env σ)) d v) : SOk K U0 H0 F (σ.set i (some v)) H (env.set i (some (d, false))) := by
  have sub : ∀ a, AU U0 (env.set i (some (d, false))) (σ.set i (some v)) a → AU U0 env σ a := fun a h => by
    rcases h with h | ⟨j, d', e1, e2⟩
    · exact .inl h
    · by_cases hj : i = j
      · subst hj
        by_cases hi : i < env.length
        · rw [List.getElem?_set_self hi] at e1
          cases e1
        · rw [List.getElem?_eq_none (by simpa using hi)] at e1
          cases e1
      · rw [List.getElem?_set_ne hj] at e1 e2
        exact .inr ⟨j, d', e1, e2⟩
  have hl := o.len
  refine ⟨by simp [o.len], o.same, o.live, fun j d' h => ?_, fun j d' h => ?_, fun j k d1 d2 a h1 h2 h3 h4 => ?_, o.keep.trans (hide_anti sub)⟩
  · by_cases hj : i = j
    · subst hj
      by_cases hi : i < env.length
      · rw [List.getElem?_set_self hi] at h
        cases h
        exact ⟨v, List.getElem?_set_self (by omega), p.mono (hide_anti sub)⟩
      · rw [List.getElem?_eq_none (by simpa using hi)] at h
        cases h
    · rw [List.getElem?_set_ne hj] at h ⊢
      obtain ⟨w, e1, e2⟩ := o.val j d' h
      exact ⟨w, e1, e2.mono (hide_anti sub)⟩
  · by_cases hj : i = j
    · subst hj
      by_cases hi : i < env.length
      · rw [List.getElem?_set_self hi] at h
        cases h
      · rw [List.getElem?_eq_none (by simpa using hi)] at h
        cases h
    · rw [List.getElem?_set_ne hj] at h ⊢
      obtain ⟨a, xs, vs, e1, e2, e3, e4, e5⟩ := o.own j d' h
      exact ⟨a, xs, vs, e1, e2, e3, e4, e5.mono (hide_anti sub)⟩
  · by_cases hj : i = j
    · subst hj
      by_cases hi : i < env.length
      · rw [List.getElem?_set_self hi] at h1
        cases h1
      · rw [List.getElem?_eq_none (by simpa using hi)] at h1
        cases h1
    · by_cases hk : i = k
      · subst hk
        by_cases hi : i < env.length
        · rw [List.getElem?_set_self hi] at h2
          cases h2
        · rw [List.getElem?_eq_none (by simpa using hi)] at h2
          cases h2
      · rw [List.getElem?_set_ne hj] at h1 h3
        rw [List.getElem?_set_ne hk] at h2 h4
        exact o.inj j k d1 d2 a h1 h2 h3 h4
/-- a name gets a new list, owned -/
theorem SOk.storeO (o : SOk K U0 H0 F σ H env) {i : Nat} {xs : List D} {a : Addr} {vs : List V} (h0 : H0 a = none) (ha : H a = some (.lst vs)) (hn : ¬ OwnA env σ a)
    (p : RpAll K (hide H fun b => AU U0 env σ b ∨ b = a) xs vs) (hv : ∀ (j : Nat) (d : D), env[j]? = some (some (d, false)) → ∃ v, σ[j]? = some (some v) ∧ Rp K (hide H fun b => AU U0 env σ b ∨ b = a) d v)
    (ho : ∀ (j : Nat) (d : D), env[j]? = some (some (d, true)) → ∃ b ys us, d = .lst ys ∧ σ[j]? = some (some (V.ref b)) ∧ H b = some (.lst us) ∧ H0 b = none ∧ RpAll K (hide H fun b => AU U0 env σ b ∨ b = a) ys us) (hk : Same F (hide H fun b => AU U0 env σ b ∨ b = a)) :
    SOk K U0 H0 F (σ.set i (some (.ref a))) H (env.set i (some (.lst xs, true))) := by
  have sub : ∀ b, AU U0 (env.set i (some (.lst xs, true))) (σ.set i (some (.ref a))) b → AU U0 env σ b ∨ b = a := fun b h => by
    rcases h with h | ⟨j, d', e1, e2⟩
    · exact .inl (.inl h)
    · by_cases hj : i = j
      · subst hj
        by_cases hi : i < σ.length
        · rw [List.getElem?_set_self hi] at e2
          cases e2
          exact .inr rfl
        · rw [List.getElem?_eq_none (by simpa using hi)] at e2
          cases e2
      · rw [List.getElem?_set_ne hj] at e1 e2
        exact .inl (.inr ⟨j, d', e1, e2⟩)
  have hl := o.len
  refine ⟨by simp [o.len], o.same, o.live, fun j d' h => ?_, fun j d' h => ?_, fun j k d1 d2 b h1 h2 h3 h4 => ?_, hk.trans (hide_anti sub)⟩
  · by_cases hj : i = j
    · subst hj
      by_cases hi : i < env.length
      · rw [List.getElem?_set_self hi] at h
        cases h
      · rw [List.getElem?_eq_none (by simpa using hi)] at h
        cases h
    · rw [List.getElem?_set_ne hj] at h ⊢
      obtain ⟨w, e1, e2⟩ := hv j d' h
      exact ⟨w, e1, e2.mono (hide_anti sub)⟩
  · by_cases hj : i = j
    · subst hj
      by_cases hi : i < env.length
      · rw [List.getElem?_set_self hi] at h
        cases h
        exact ⟨a, xs, vs, rfl, List.getElem?_set_self (by omega), ha, h0, p.mono (hide_anti sub)⟩
      · rw [List.getElem?_eq_none (by simpa using hi)] at h
        cases h
    · rw [List.getElem?_set_ne hj] at h ⊢
      obtain ⟨b, ys, us, e1, e2, e3, e4, e5⟩ := ho j d' h
      exact ⟨b, ys, us, e1, e2, e3, e4, e5.mono (hide_anti sub)⟩
  · by_cases hj : i = j
    · subst hj
      by_cases hk : i = k
      · exact hk
      · by_cases hi : i < env.length
        · rw [List.getElem?_set_self (by omega)] at h3
          cases h3
          rw [List.getElem?_set_ne hk] at h2 h4
          exact (hn ⟨k, d2, h2, h4⟩).elim
        · rw [List.getElem?_eq_none (by simpa using hi)] at h1
          cases h1
    · by_cases hk : i = k
      · subst hk
        by_cases hi : i < env.length
        · rw [List.getElem?_set_self (by omega)] at h4
          cases h4
          rw [List.getElem?_set_ne hj] at h1 h3
          exact (hn ⟨j, d1, h1, h3⟩).elim
        · rw [List.getElem?_eq_none (by simpa using hi)] at h2
          cases h2
      · rw [List.getElem?_set_ne hj] at h1 h3
        rw [List.getElem?_set_ne hk] at h2 h4
        exact o.inj j k d1 d2 b h1 h2 h3 h4
/-- an owned list is changed in place -/
theorem SOk.change (o : SOk K U0 H0 F σ H env) {i : Nat} {xs ys : List D} {a : Addr} {us : List V} (e : env[i]? = some (some (.lst xs, true))) (hs : σ[i]? = some (some (V.ref a))) (p : RpAll K (hide H (AU U0 env σ)) ys us) :
    SOk K U0 H0 F σ (upd H a (.lst us)) (env.set i (some (.lst ys, true))) := by
  have hi : i < env.length := (List.getElem?_eq_some_iff.mp e).1
  have hown : OwnA env σ a := ⟨i, _, e, hs⟩
  have sub : ∀ b, AU U0 (env.set i (some (.lst ys, true))) σ b → AU U0 env σ b := fun b h => by
    rcases h with h | ⟨j, d', e1, e2⟩
    · exact .inl h
    · by_cases hj : i = j
      · subst hj; exact .inr ⟨i, _, e, e2⟩
      · rw [List.getElem?_set_ne hj] at e1
        exact .inr ⟨j, d', e1, e2⟩
  have same : Same (hide H (AU U0 env σ)) (hide (upd H a (.lst us)) (AU U0 (env.set i (some (.lst ys, true))) σ)) := fun b u z => by
    obtain ⟨n1, z⟩ := hide_some z
    rw [hide_out fun q => n1 (sub b q), upd_ne fun q => n1 (by rw [q]; exact .inr hown)]
    exact z
  obtain ⟨a', xs', vs', e1, e2, e3, e4, e5⟩ := o.own i _ e
  rw [hs] at e2
  cases e2
  refine ⟨by simp [o.len], fun b u z => ?_, o.live, fun j d' h => ?_, fun j d' h => ?_, fun j k d1 d2 b h1 h2 h3 h4 => ?_, o.keep.trans same⟩
  · rw [upd_ne fun q => by rw [q, e4] at z; cases z]
    exact o.same b u z
  · by_cases hj : i = j
    · subst hj
      rw [List.getElem?_set_self hi] at h
      cases h
    · rw [List.getElem?_set_ne hj] at h
      obtain ⟨w, f1, f2⟩ := o.val j d' h
      exact ⟨w, f1, f2.mono same⟩
  · by_cases hj : i = j
    · subst hj
      rw [List.getElem?_set_self hi] at h
      cases h
      exact ⟨a, ys, us, rfl, hs, upd_same, e4, p.mono same⟩
    · rw [List.getElem?_set_ne hj] at h
      obtain ⟨b, zs, ws, f1, f2, f3, f4, f5⟩ := o.own j d' h
      have hb : b ≠ a := fun q => hj (o.inj i j _ _ a e h hs (by rw [← q]; exact f2))
      exact ⟨b, zs, ws, f1, f2, by rw [upd_ne hb]; exact f3, f4, f5.mono same⟩
  · have h1' : ∃ d, env[j]? = some (some (d, true)) := by
      by_cases hj : i = j
      · subst hj; exact ⟨_, e⟩
      · rw [List.getElem?_set_ne hj] at h1; exact ⟨_, h1⟩
    have h2' : ∃ d, env[k]? = some (some (d, true)) := by
      by_cases hk : i = k
      · subst hk; exact ⟨_, e⟩
      · rw [List.getElem?_set_ne hk] at h2; exact ⟨_, h2⟩
    obtain ⟨d1', h1'⟩ := h1'
    obtain ⟨d2', h2'⟩ := h2'
    exact o.inj j k d1' d2' b h1' h2' h3 h4
end
end CS

/-! what the evaluator says of a statement, the machine does -/
namespace CS
open PySem L2 PySem.Spec PyProof.Rows

structure XOk (K : PySem.W.Frag) (mg : Str → Option Value) (x : Str) (C : Addr) : Prop where
  ex : ∃ (B newId initId : String) (bmB : List Value), ExcBaseFacts B newId initId bmB ∧ PySem.W.excIn K C bmB newId = true
  g : mg x = some (.ref C)
  k : PySem.W.keepIn K (.ref C) = true
  s : PySem.W.subIn K (.ref C) (.type "BaseException") = some true
  t : PySem.W.typeIn K (.ref C) = some (.type "type")
/-- what the error classes say of each other: 0 is their common base -/
def XAll (T : Tb) (cls : Nat → Option Addr) (K : PySem.W.Frag) : Prop := ∀ (i : Nat) (x : Str) (C : Addr), T.exs[i]? = some x → cls i = some C → i ≠ 0 →
  ExcC K C ∧ (∀ C0, cls 0 = some C0 → PySem.W.exmOne K (.ref C) (.ref C0) = some true) ∧ ∀ (j : Nat) (y : Str) (C' : Addr), T.exs[j]? = some y → cls j = some C' → j ≠ 0 → PySem.W.kitOne K (.ref C) (.ref C') = some (j == i)
structure GdS (T : Tb) (cls : Nat → Option Addr) (S : Sx) (X : Cx) (W : WX) : Prop extends Gd T cls S X W where
  pass : PassesOwn (model X.prog X.w) X.A X.env X.xe
  kind : X.env.scope.kind = .function
  exs : ∀ (k : Nat) (x : Str), T.exs[k]? = some x → ∃ C, cls k = some C ∧ XOk X.K X.mg x C
  exq : XAll T cls X.K
  stk : X.stack = X.env :: X.outer
  frm : X.env.frame = some X.env.locals

def OutK (K : PySem.W.Frag) (cls : Nat → Option Addr) (W : WX) (U0 : AS) (H0 F : Hp) (D : Ends) : Out → Prop
  | .nx e' => ∀ σ' H', SOk K U0 H0 F σ' H' e' → D.nx σ' H'
  | .rt d fr => ∀ v H', Same H0 H' → Rp K (hide H' U0) d v → (fr = true → ∀ xs, d = .lst xs → Fresh K U0 H0 H' xs v) → D.rt v H'
  | .ex k => ∃ C, cls k = some C ∧ ∀ σ' H', Same H0 H' → W (.ref C) none σ' H'
  | .bad => False
def tSt (K : PySem.W.Frag) (cls : Nat → Option Addr) (W : WX) (U0 : AS) (H0 F : Hp) (env : Env) (o : Out) : TS := fun D σ H => SOk K U0 H0 F σ H env ∧ OutK K cls W U0 H0 F D o
theorem PS.ex {X : Cx} {α : Type} {e : Stmt} {t : α → TS} (p : ∀ a, PS X e (t a)) : PS X e (fun D σ H => ∃ a, t a D σ H) := ⟨fun pins s σ H Q I ⟨a, q⟩ => (p a).run pins s σ H Q I q⟩

section
variable {T : Tb} {cls : Nat → Option Addr} {K : PySem.W.Frag} {W : WX} {U0 : AS} {H0 F : Hp} {σ : L2.St} {H : Hp} {env : Env} {D : Ends}
theorem run_vis {e : E} {fr : Bool} {f : CS.D → Out} {Q : VK} (o : SOk K U0 H0 F σ H env) (q : OutK K cls W U0 H0 F D ((ev T e (visE env)).out f))
    (k : ∀ d v H', Same H H' → SOk K U0 H0 F σ H' env → Rp K (hide H' U0) d v → (fr = true → ∀ xs, d = .lst xs → Fresh K U0 H H' xs v) → OutK K cls W U0 H0 F D (f d) → Q v H') : tR K cls W U0 (visE env) fr (ev T e (visE env)) σ H Q := by
  refine ⟨o.liveH, o.rho, ?_⟩
  revert q
  cases ev T e (visE env) with
  | bad => exact fun q => q
  | exc c => exact fun ⟨C, e1, q⟩ => ⟨C, e1, fun H' s => q σ H' (o.same.trans s)⟩
  | val d => exact fun q v H' s p z => k d v H' s (o.mono s) p z q
theorem runT {e : E} {f : CS.D → Out} {Q : Bool → Hp → Prop} (o : SOk K U0 H0 F σ H env) (q : OutK K cls W U0 H0 F D ((ev T e (visE env)).out f)) (hf : ∀ d, (∀ b, d ≠ .bl b) → f d = .bad)
    (k : ∀ b H', Same H H' → SOk K U0 H0 F σ H' env → OutK K cls W U0 H0 F D (f (.bl b)) → Q b H') : tT K cls W U0 (visE env) (ev T e (visE env)) σ H Q := by
  refine ⟨o.liveH, o.rho, ?_⟩
  cases ee : ev T e (visE env) with
  | bad => rw [ee] at q; exact q
  | exc c =>
    rw [ee] at q
    obtain ⟨C, e1, q⟩ := q
    exact ⟨C, e1, fun H' s => q σ H' (o.same.trans s)⟩
  | val d =>
    rw [ee] at q
    by_cases hb : ∃ b, d = .bl b
    · obtain ⟨b, rfl⟩ := hb
      exact ⟨b, rfl, fun H' s => k b H' s (o.mono s) q⟩
    · have q : OutK K cls W U0 H0 F D (f d) := q
      rw [hf d fun b z => hb ⟨b, z⟩] at q
      exact q.elim
/-- the value at a statement stands apart from what is owned -/
theorem evS_run {e : E} {vis : Bool} {f : CS.D → Out} {Q : VK} (o : SOk K U0 H0 F σ H env) (q : OutK K cls W U0 H0 F D ((evS T e env vis).out f))
    (k : ∀ d v H', Same H H' → SOk K U0 H0 F σ H' env → Rp K (hide H' (AU U0 env σ)) d v → (isFresh T e = true → ∀ xs, d = .lst xs → Fresh K (AU U0 env σ) H H' xs v) → OutK K cls W U0 H0 F D (f d) → Q v H') :
    ∃ U, tR K cls W U (if vis then visE env else hidE env) (isFresh T e) (ev T e (if vis then visE env else hidE env)) σ H Q := by
  unfold evS at q
  cases vis with
  | false =>
    refine ⟨AU U0 env σ, o.liveA, o.rhoH, ?_⟩
    simp only [Bool.false_eq_true, if_false] at q ⊢
    cases ee : ev T e (hidE env) with
    | bad => rw [ee] at q; exact q
    | exc c =>
      rw [ee] at q
      obtain ⟨C, e1, q⟩ := q
      exact ⟨C, e1, fun H' s => q σ H' (o.same.trans s)⟩
    | val d =>
      rw [ee] at q
      exact fun v H' s p z => k d v H' s (o.mono s) p z q
  | true =>
    refine ⟨U0, o.liveH, o.rho, ?_⟩
    simp only [if_true] at q ⊢
    cases ee : ev T e (visE env) with
    | bad => rw [ee] at q; exact q
    | exc c =>
      rw [ee] at q
      obtain ⟨C, e1, q⟩ := q
      exact ⟨C, e1, fun H' s => q σ H' (o.same.trans s)⟩
    | val d =>
      rw [ee] at q
      simp only [Res.bind] at q
      split at q
      · rename_i hc
        intro v H' s p z
        have o' := o.mono s
        simp only [Bool.or_eq_true, Bool.and_eq_true] at hc
        have fl : ∀ xs vs a, CS.D.flats xs = true → v = .ref a → H a = none → H' a = some (.lst vs) → RpAll K (hide H' fun b => U0 b ∨ b = a) xs vs → RpAll K (hide H' fun b => AU U0 env σ b ∨ b = a) xs vs := fun xs vs a hfl hv h1 h2 h3 => by
          have h4 := o'.flats hfl (h3.mono (hide_anti fun b z => .inl z))
          have h5 := RpAll.hid (U := fun b => b = a) (fun b hb => by subst hb; exact ⟨vs, by rw [hide_out (fun w => (o.liveA b w) h1)]; exact h2⟩) xs vs hfl h4
          refine h5.mono fun b u e => ?_
          obtain ⟨n1, e⟩ := hide_some e
          obtain ⟨n2, e⟩ := hide_some e
          rw [hide_out (fun w => w.elim n2 n1)]
          exact e
        have nown : noOwn env = true → ∀ b, AU U0 env σ b → U0 b := fun hn b hb => by
          rcases hb with hb | ⟨i, d', e1, e2⟩
          · exact hb
          · unfold noOwn at hn
            rw [List.all_eq_true] at hn
            exact nope (hn _ (List.mem_of_getElem? e1))
        rcases hc with (hc | hc) | hc
        · refine k d v H' s o' (o'.flat hc p) (fun hfr xs hd => ?_) q
          subst hd
          simp [CS.D.flat] at hc
        · cases d with
          | lst xs =>
            obtain ⟨a, vs, e1, e2, e3, e4⟩ := z hc.1 xs rfl
            have e5 := fl xs vs a hc.2 e1 e2 e3 e4
            refine k _ v H' s o' ?_ (fun _ ys hy => ?_) q
            · simp only [Rp]
              refine ⟨a, vs, e1, ?_, e5.mono (hide_anti fun b h => .inl h)⟩
              rw [hide_out fun w => o.liveA a w e2]
              exact e3
            · cases hy
              exact ⟨a, vs, e1, e2, e3, e5⟩
          | _ => exact nope (show false = true from hc.2)
        · refine k d v H' s o' (p.mono (hide_anti (nown hc))) (fun hfr xs hd => ?_) q
          obtain ⟨a, vs, e1, e2, e3, e4⟩ := z hfr xs hd
          exact ⟨a, vs, e1, e2, e3, e4.mono (hide_anti fun b h => h.elim (fun w => .inl (nown hc b w)) .inr)⟩
      · exact q.elim
/-- a new list, owned from now on -/
theorem SOk.fresh (o : SOk K U0 H0 F σ H env) {H' : Hp} (s : Same H H') {i : Nat} {xs : List CS.D} {v : V} (f : Fresh K (AU U0 env σ) H H' xs v) : SOk K U0 H0 F (σ.set i (some v)) H' (env.set i (some (.lst xs, true))) := by
  obtain ⟨a, vs, rfl, e1, e2, e3⟩ := f
  have hn : ¬ OwnA env σ a := fun w => o.liveA a (.inr w) e1
  have up : Same (hide H (AU U0 env σ)) (hide H' fun b => AU U0 env σ b ∨ b = a) := fun b u z => by
    obtain ⟨n1, z⟩ := hide_some z
    rw [hide_out (fun w => w.elim n1 (ne_of_none z e1))]
    exact s _ _ z
  refine (o.mono s).storeO (o.same.free e1) e2 hn e3 (fun j d h => ?_) (fun j d h => ?_) (o.keep.trans up)
  · obtain ⟨w, f1, f2⟩ := o.val j d h
    exact ⟨w, f1, f2.mono up⟩
  · obtain ⟨b, ys, us, f1, f2, f3, f4, f5⟩ := o.own j d h
    exact ⟨b, ys, us, f1, f2, s _ _ f3, f4, f5.mono up⟩
theorem setE_ok {ok : Nat → Bool} : ∀ (l : List (Nat × CS.D)) (as : List (Nat × V)) {σ : L2.St} {env : Env}, SOk K U0 H0 F σ H env → AsOk K (hide H (AU U0 env σ)) ok l as → SOk K U0 H0 F (setV σ as) H (setE env l)
  | [], as, σ, env, o, h => by
    have h : as = [] := h
    subst h; exact o
  | (i, d) :: l, as, σ, env, o, h => by
    obtain ⟨v, q, rfl, h1, h2, h3⟩ := h
    have o2 := o.store (i := i) h2
    refine setE_ok (ok := ok) l q o2 ?_
    -- what is owned has only shrunk
    have sub : ∀ b, AU U0 (env.set i (some (d, false))) (σ.set i (some v)) b → AU U0 env σ b := fun b hb => by
      rcases hb with hb | ⟨j, d', e1, e2⟩
      · exact .inl hb
      · by_cases hj : i = j
        · subst hj
          by_cases hi : i < env.length
          · rw [List.getElem?_set_self hi] at e1; cases e1
          · rw [List.getElem?_eq_none (by simpa using hi)] at e1; cases e1
        · rw [List.getElem?_set_ne hj] at e1 e2
          exact .inr ⟨j, d', e1, e2⟩
    clear o2 h2
    have : ∀ (l : List (Nat × CS.D)) (q : List (Nat × V)), AsOk K (hide H (AU U0 env σ)) ok l q → AsOk K (hide H (AU U0 (env.set i (some (d, false))) (σ.set i (some v)))) ok l q := by
      intro l
      induction l with
      | nil => intro q h; exact h
      | cons p l ih =>
        intro q h
        obtain ⟨w, r, e, k1, k2, k3⟩ := h
        exact ⟨w, r, e, k1, k2.mono (hide_anti sub), ih r k3⟩
    exact this l q h3
end

section
variable {T : Tb} {cls : Nat → Option Addr} {S : Sx} {X : Cx} {W : WX} {U0 : AS} {H0 F : Hp} {env : Env}
theorem comp_sw {e : Expr} {t : Option Expr} {l : Nat} {env : PySem.Env} (h : isComp e = false) : swapsWith e t l env = pure false := by
  cases e <;> first | rfl | exact nope (show true = false from h).symm
theorem chk_isComp {e : E} {n : Nat} {pe : Expr} (h : chk T e S n pe = true) (hc : isComp pe = true) : ∃ elt gs sc pos, pe = .ListComp elt gs sc pos := by
  cases pe <;> first | exact ⟨_, _, _, _, rfl⟩ | exact nope (show false = true from hc) | (cases e <;> simp [chk] at h)
theorem sw_false {elt : Expr} {gs : List Comprehension} {scope : Scope} {pos py : Pos} {y : Str} {l : Nat} {env : PySem.Env} (hk : env.scope.kind = .function)
    (h : swB env.scope (.ListComp elt gs scope pos) y py.line = false) : swapsWith (.ListComp elt gs scope pos) (some (.Name y py)) l env = pure false := by
  have hb : env.blockKind = .function := by unfold Env.blockKind; rw [hk]; rfl
  unfold swapsWith
  simp only [hb, Expr.pos]
  have h' : (env.kindOf y == some .local && py.line == pos.line && !(scope.names.any fun (n, k) => n == y && (k == .local || k == .cell))) = false := h
  have e : ((ScopeKind.function == ScopeKind.function) && env.kindOf y == some .local && py.line == pos.line && !(scope.names.any fun (n, k) => n == y && (k == .local || k == .cell))) = false := by
    rw [← h']; rfl
  show (pure _ : Sem Bool) = pure false
  exact congrArg pure e
/-- name = e, whatever e is -/
theorem ps_name (g : GdS T cls S X W) {e : E} {i : Nat} {x : Str} {px pos : Pos} {v : Expr} (U : AS) (r : Rho) (h1 : atN S i x = true) (h2 : stoN S x = true) (h : chk T e S 0 v = true) :
    PS X (.Assign [.Name x px] v pos) (tAsg (tR X.K cls W U r (isFresh T e) (ev T e r)) (gName i)) := by
  obtain ⟨hl, hf⟩ := g.sto h2
  by_cases hc : isComp v = true
  · obtain ⟨pelt, gs, scope, vp, rfl⟩ := chk_isComp h hc
    by_cases hsw : swB X.env.scope (.ListComp pelt gs scope vp) x px.line = true
    · have h' := h
      cases e <;> simp only [chk] at h <;> try (exact nope h)
      rename_i elt tg it cond own
      split at h
      · rename_i pelt' ptg piter ifs z scope' pos' e'
        cases e'
        obtain ⟨rfl, ok, hs, wi, gR, ttR, teR, k1, k2, k3, k4, k5⟩ := lc_parts (U := U) (r := r) (snd elt) (snd it) (snd cond) g.toGd h'
        simp only [swB, Bool.and_eq_true, beq_iff_eq, Bool.not_eq_true'] at hsw
        refine PS.imp (ps_setLc g.calm g.nd (g.at h1) hsw.1.1 (sw_true g.kind hsw.1.1 (by simpa using hsw.1.2) hsw.2) k1 ok k2 k3 k4 hs) fun D σ H q => ?_
        exact k5 σ H _ q
      · cases h
    · exact ps_set g.nd (g.at h1) hl ((snd e).pe U r g.toGd h) (sw_false g.kind (by simpa using hsw)) hf
  · exact ps_set g.nd (g.at h1) hl ((snd e).pe U r g.toGd h) (comp_sw (by simpa using hc)) hf
theorem ps_asgS (g : GdS T cls S X W) {t : Tg} {e : E} {fz : List Nat} {vis own : Bool} {st : Stmt} (h : chkS T S (.asg t e fz vis own) st = true) : PS X st (tSt X.K cls W U0 H0 F env (exec T (.asg t e fz vis own) env)) := by
  simp only [chkS] at h
  split at h
  · rename_i tg v pos
    simp only [Bool.and_eq_true, Bool.not_eq_true'] at h
    obtain ⟨⟨h0, h1⟩, h2⟩ := h
    cases t with
    | nm i =>
      simp only [chkT] at h1
      split at h1
      · rename_i x px
        simp only [Bool.and_eq_true] at h1
        refine PS.imp (PS.ex fun U => ps_name g (pos := pos) U (if vis then visE (frz env fz) else hidE (frz env fz)) h1.1.1 h1.1.2 h2) fun D σ H q => ?_
        obtain ⟨o, q⟩ := q
        simp only [exec] at q
        have of := o.frz fz
        refine evS_run of q fun d v H' s o' p f q' => ?_
        show D.nx (σ.set i (some v)) H'
        cases own with
        | true =>
          simp only [if_true] at q'
          cases d with
          | lst xs =>
            simp only at q'
            split at q'
            · rename_i hfr
              exact q' _ _ (of.fresh s (f hfr xs rfl))
            · exact q'.elim
          | _ => exact q'.elim
        | false =>
          simp only [Bool.false_eq_true, if_false] at q'
          simp only [bindE, flatT, Option.map_some, setE] at q'
          exact q' _ _ (o'.store p)
      · cases h1
    | tup ts =>
      have hpg : PG X tg (fun v σ H Q => ∃ U' : AS, tGq X.K U' (fun _ => true) (.tup ts) v σ H Q) := PG.ex fun U' => pg_ok g.toGd U' (.tup ts) h1
      have htg : ∃ es k p, tg = .Tuple es k p := by
        simp only [chkT] at h1
        split at h1
        · exact ⟨_, _, _, rfl⟩
        · cases h1
      obtain ⟨es, kk, pp, rfl⟩ := htg
      have hs : swapsWithSole [.Tuple es kk pp] v pos.line X.env = pure false := by
        show swapsWith v (some (.Tuple es kk pp)) pos.line X.env = pure false
        cases v <;> rfl
      have hw : swappedStores [.Tuple es kk pp] v X.env = pure none := by
        cases v <;> first | rfl | exact absurd h0 (by decide) | exact nope h0 | (simp [isTupE] at h0)
      refine PS.imp (PS.ex fun U => ps_asg (pos := pos) ((snd e).pe U (if vis then visE (frz env fz) else hidE (frz env fz)) g.toGd h2) hpg hs hw rfl) fun D σ H q => ?_
      obtain ⟨o, q⟩ := q
      simp only [exec] at q
      have of := o.frz fz
      refine evS_run of q fun d v H' s o' p f q' => ?_
      cases own with
      | true => simp only [if_true] at q'; exact q'.elim
      | false =>
        simp only [Bool.false_eq_true, if_false] at q'
        cases hb : flatT (.tup ts) d with
        | none => simp only [bindE, hb, Option.map_none] at q'; exact q'.elim
        | some l =>
          simp only [bindE, hb, Option.map_some] at q'
          exact ⟨_, d, l, hb, p, fun as has => q' _ _ (setE_ok l as o' has)⟩
    | nil => exact nope (show false = true from h1)
    | cons _ _ => exact nope (show false = true from h1)
  · cases h
end
end CS

/-! a, b = x, y -/
namespace CS
open PySem L2 PySem.Spec PyProof.Rows

/-- the arguments one after another, each from its own heap -/
def Chain (T : Tb) (K : PySem.W.Frag) (U : AS) : E → Hp → Hp → List D → List V → Prop
  | .anil, H, H', ds, vs => ds = [] ∧ vs = [] ∧ Same H H'
  | .acons a es, H, H', ds, vs => ∃ d ds' v vs' H1, ds = d :: ds' ∧ vs = v :: vs' ∧ Same H H1 ∧ Rp K (hide H1 U) d v ∧ (isFresh T a = true → ∀ xs, d = .lst xs → Fresh K U H H1 xs v) ∧ Chain T K U es H1 H' ds' vs'
  | _, _, _, _, _ => False
def tAc (T : Tb) (K : PySem.W.Frag) (cls : Nat → Option Addr) (W : WX) (U : AS) (r : Rho) (e : E) : TA := fun σ H Q =>
  Live U H ∧ RhoOk K U σ H r ∧ match ev T e r with
    | .val d => ∃ ds, d = .lst ds ∧ ∀ vs H', Same H H' → Chain T K U e H H' ds vs → Q vs H'
    | .exc k => ∃ C, cls k = some C ∧ ∀ H', Same H H' → W (.ref C) none σ H'
    | .bad => False
section
variable {T : Tb} {cls : Nat → Option Addr} {S : Sx} {X : Cx} {W : WX}
theorem chkA_inv : ∀ {e : E} {pes : List Expr}, chkA T e S pes = true → (e = .anil ∧ pes = []) ∨ ∃ a es p ps, e = .acons a es ∧ pes = p :: ps ∧ chk T a S 0 p = true ∧ chkA T es S ps = true := fun {e pes} h => by
  cases e with
  | anil =>
    cases pes with
    | nil => exact .inl ⟨rfl, rfl⟩
    | cons a b => exact nope (show false = true from h)
  | acons a es =>
    cases pes with
    | nil => exact nope (show false = true from h)
    | cons p ps =>
      simp only [chkA, Bool.and_eq_true] at h
      exact .inr ⟨a, es, p, ps, rfl, rfl, h.1, h.2⟩
  | _ => exact nope (show false = true from h)
theorem pa_chain (g : Gd T cls S X W) (U : AS) (r : Rho) : ∀ (e : E) {pes : List Expr}, chkA T e S pes = true → PA X pes (tAc T X.K cls W U r e) := by
  intro e
  induction e with
  | anil =>
    intro pes h
    rcases chkA_inv h with ⟨_, rfl⟩ | ⟨_, _, _, _, z, _⟩
    · refine PA.imp pa_nil fun σ H Q q => ?_
      obtain ⟨l, o, ds, e, q⟩ := q
      cases e
      exact q [] H (Same.refl _) ⟨rfl, rfl, Same.refl _⟩
    · cases z
  | acons a es ia ie =>
    intro pes h
    have hst := chkA_nostar h
    rcases chkA_inv h with ⟨z, _⟩ | ⟨_, _, p, ps, z, rfl, h1, h2⟩
    · cases z
    · cases z
      refine PA.imp (pa_cons ((snd a).pe U r g h1) (ie h2) (star_cons (hst p (by simp)))) fun σ H Q q => ?_
      obtain ⟨l, o, q⟩ := q
      simp only [ev] at q
      refine ⟨l, o, ?_⟩
      cases e1 : ev T a r with
      | bad => rw [e1] at q; exact q.elim
      | exc c => rw [e1] at q; exact q
      | val x =>
        rw [e1] at q
        intro v H1 s1 p1 f1
        refine ⟨l.mono s1, o.mono s1, ?_⟩
        cases e2 : ev T es r with
        | bad => rw [e2] at q; exact q.elim
        | exc c =>
          rw [e2] at q
          obtain ⟨C, z1, z2⟩ := q
          exact ⟨C, z1, fun H' s => z2 H' (s1.trans s)⟩
        | val y =>
          rw [e2] at q
          cases y with
          | lst ys =>
            obtain ⟨ds, z1, q⟩ := q
            cases z1
            exact ⟨ys, rfl, fun vs H2 s2 c2 => q (v :: vs) H2 (s1.trans s2) ⟨x, ys, v, vs, H1, rfl, rfl, s1, p1, f1, c2⟩⟩
          | _ => exact q.elim
  | _ => intro pes h; exact nope (show false = true from h)

/-! ### the stores -/
def gNames (is : List Nat) : TGs := fun vs σ H Q => vs.length = is.length ∧ Q (setV σ (is.zip vs)) H
theorem pgs_names (g : Gd T cls S X W) : ∀ {ts : List (Nat × Bool)} {es : List Expr}, ownSlots S ts es = true → PGs X es (gNames (ts.map (·.1))) ∧ (∀ e ∈ es, ∀ x p, e ≠ .Starred x p) ∧ es.length = ts.length
  | [], es, h => by
    cases es with
    | cons a b => exact nope (show false = true from h)
    | nil =>
      refine ⟨PGs.imp pgs_nil fun vs σ H Q q => ?_, by simp, rfl⟩
      have e : vs = [] := List.eq_nil_of_length_eq_zero q.1
      subst e
      exact ⟨rfl, q.2⟩
  | (i, b) :: ts, es, h => by
    cases es with
    | nil => exact nope (show false = true from h)
    | cons e es =>
      cases e <;> try (exact nope (show false = true from h))
      rename_i x px
      simp only [ownSlots, Bool.and_eq_true] at h
      obtain ⟨hl, hf⟩ := g.sto h.1.2
      obtain ⟨p1, p2, p3⟩ := pgs_names g h.2
      refine ⟨PGs.imp (pgs_cons (pg_name g.nd (g.at h.1.1) hl hf) p1 rfl) fun vs σ H Q q => ?_, ?_, by simp [p3]⟩
      · cases vs with
        | nil => exact nomatch q.1
        | cons v vs =>
          refine ⟨v, vs, rfl, by simpa using q.1, ?_⟩
          exact q.2
      · intro e he x p z
        rcases List.mem_cons.mp he with rfl | he
        · cases z
        · exact p2 e he x p z
def tParS (ta : TA) (is : List Nat) : TS := fun D σ H => ta σ H fun vs H1 => vs.length = is.length ∧ vs.length ≤ sizeLine ∧ ∀ H', Same H1 H' → D.nx (setV σ (is.zip vs)) H'
theorem locNames_inv {sc : Scope} : ∀ {es : List Expr} {ns : List Str}, locNames sc es = some ns → es.length = ns.length
  | [], ns, h => by cases h; rfl
  | e :: es, ns, h => by
    cases e <;> try (cases h)
    rename_i x px
    simp only [locNames] at h
    split at h
    · rw [Option.map_eq_some_iff] at h
      obtain ⟨ms, h, rfl⟩ := h
      simp [locNames_inv h]
    · cases h
theorem distinct2 {i j : Nat} (h : distinct [i, j] = true) : i ≠ j := by
  simp [distinct] at h
  exact h
theorem distinct3 {i j k : Nat} (h : distinct [i, j, k] = true) : i ≠ j ∧ i ≠ k ∧ j ≠ k := by
  simp [distinct] at h
  exact ⟨h.1.1, h.1.2, h.2⟩
theorem locNames_cons {sc : Scope} {es : List Expr} {x : Str} {ns : List Str} (h : locNames sc es = some (x :: ns)) : ∃ px es', es = .Name x px :: es' ∧ sc.names.lookup x = some .local ∧ locNames sc es' = some ns := by
  cases es with
  | nil => cases h
  | cons e es =>
    cases e <;> try (cases h)
    rename_i y py
    simp only [locNames] at h
    split at h
    · rename_i e1
      rw [Option.map_eq_some_iff] at h
      obtain ⟨ms, h1, h2⟩ := h
      cases h2
      exact ⟨py, es, rfl, e1, h1⟩
    · cases h
theorem locNames_nil {sc : Scope} {es : List Expr} (h : locNames sc es = some []) : es = [] := List.eq_nil_of_length_eq_zero (locNames_inv h)
theorem ownSlots_cons {ts : List (Nat × Bool)} {x : Str} {px : Pos} {es : List Expr} (h : ownSlots S ts (.Name x px :: es) = true) : ∃ i b ts', ts = (i, b) :: ts' ∧ atN S i x = true ∧ ownSlots S ts' es = true := by
  cases ts with
  | nil => exact nope (show false = true from h)
  | cons p ts =>
    obtain ⟨i, b⟩ := p
    simp only [ownSlots, Bool.and_eq_true] at h
    exact ⟨i, b, ts, rfl, h.1.1, h.2⟩
theorem ownSlots_nil {ts : List (Nat × Bool)} (h : ownSlots S ts [] = true) : ts = [] := by
  cases ts with
  | nil => rfl
  | cons p ts => exact nope (show false = true from h)
theorem tAc_mono {K : PySem.W.Frag} {U : AS} {r : Rho} {e : E} {σ : L2.St} {H : Hp} {Q Q' : List V → Hp → Prop} (k : ∀ vs H1, Q vs H1 → Q' vs H1) (h : tAc T K cls W U r e σ H Q) : tAc T K cls W U r e σ H Q' := by
  obtain ⟨l, o, h⟩ := h
  refine ⟨l, o, ?_⟩
  revert h
  cases ev T e r with
  | bad => exact fun h => h
  | exc c => exact fun h => h
  | val d => exact fun ⟨ds, e, h⟩ => ⟨ds, e, fun vs H' s c => k _ _ (h vs H' s c)⟩
theorem ps_parE (g : GdS T cls S X W) {ts : List (Nat × Bool)} {tgs vs : List Expr} {k1 k2 : Nat} {p1 p2 pos : Pos} {U : AS} {r : Rho} {es : E} (h1 : ownSlots S ts tgs = true) (h2 : distinct (ts.map (·.1)) = true) (ha : chkA T es S vs = true)
    (h3 : (match swP S.sc (.Tuple tgs k1 p1) (.Tuple vs k2 p2) with | some none => true | some (some ns) => decide (locNames S.sc tgs = some ns) && (ns.length == 2 || ns.length == 3) | none => false) = true) :
    PS X (.Assign [.Tuple tgs k1 p1] (.Tuple vs k2 p2) pos) (tParS (tAc T X.K cls W U r es) (ts.map (·.1))) := by
  obtain ⟨q1, q2, q3⟩ := pgs_names g.toGd h1
  have pa := pa_chain g.toGd U r es ha
  split at h3
  · rename_i e
    have hw : swappedStores [.Tuple tgs k1 p1] (.Tuple vs k2 p2) X.env = pure none := swP_ok (by rw [g.sc]; exact e)
    obtain ⟨z1, z2⟩ := each_plain (env := X.env) q2
    refine PS.imp (ps_asg (pe_tup pa) (pg_tup g.calm q1 z1 z2) rfl hw rfl) fun D σ H q => ?_
    refine tAc_mono (fun us H1 ⟨f1, f2, f3⟩ => ⟨f2, fun p hp => ?_⟩) q
    refine ⟨p, us, rfl, SqT.of upd_same, ?_, f1, f3 _ (Same.new hp)⟩
    rw [q3, f1]
    simp
  · rename_i ns e
    simp only [Bool.and_eq_true, decide_eq_true_eq, Bool.or_eq_true, beq_iff_eq] at h3
    have hw : swappedStores [.Tuple tgs k1 p1] (.Tuple vs k2 p2) X.env = pure (some ns) := swP_ok (by rw [g.sc]; exact e)
    rcases h3.2 with hn | hn
    · match ns, hn, h3, hw with
      | [x, y], hn, h3, hw =>
        obtain ⟨px, es1, rfl, hx, h4⟩ := locNames_cons h3.1
        obtain ⟨py, es2, rfl, hy, h5⟩ := locNames_cons h4
        have := locNames_nil h5
        subst this
        obtain ⟨i, bi, ts1, rfl, ai, h6⟩ := ownSlots_cons h1
        obtain ⟨j, bj, ts2, rfl, aj, h7⟩ := ownSlots_cons h6
        have := ownSlots_nil h7
        subst this
        have hij := distinct2 h2
        match vs, ha, pa, hw with
        | [a, b], ha, pa, hw =>
          refine PS.imp (ps_par g.calm g.nd (g.at ai) (g.at aj) hij (by rw [g.sc]; exact hx) (by rw [g.sc]; exact hy) pa hw rfl) fun D σ H q => ?_
          refine tAc_mono (fun us H1 ⟨f1, f2, f3⟩ => ?_) q
          match us, f1, f3 with
          | [v, w], f1, f3 => exact ⟨v, w, rfl, f3 H1 (Same.refl _)⟩
        | [], _, _, hw => exact nomatch hw
        | [_], _, _, hw => exact nomatch hw
        | _ :: _ :: _ :: _, _, _, hw => exact nomatch hw
    · match ns, hn, h3, hw with
      | [x, y, z], hn, h3, hw =>
        obtain ⟨px, es1, rfl, hx, h4⟩ := locNames_cons h3.1
        obtain ⟨py, es2, rfl, hy, h5⟩ := locNames_cons h4
        obtain ⟨pz, es3, rfl, hz, h8⟩ := locNames_cons h5
        have := locNames_nil h8
        subst this
        obtain ⟨i, bi, ts1, rfl, ai, h6⟩ := ownSlots_cons h1
        obtain ⟨j, bj, ts2, rfl, aj, h7⟩ := ownSlots_cons h6
        obtain ⟨k, bk, ts3, rfl, ak, h9⟩ := ownSlots_cons h7
        have := ownSlots_nil h9
        subst this
        obtain ⟨hij, hik, hjk⟩ := distinct3 h2
        match vs, ha, pa, hw with
        | [a, b, c], ha, pa, hw =>
          refine PS.imp (ps_par3 g.calm g.nd (g.at ai) (g.at aj) (g.at ak) hij hik hjk (by rw [g.sc]; exact hx) (by rw [g.sc]; exact hy) (by rw [g.sc]; exact hz) pa hw rfl) fun D σ H q => ?_
          refine tAc_mono (fun us H1 ⟨f1, f2, f3⟩ => ?_) q
          match us, f1, f3 with
          | [v, w, u], f1, f3 => exact ⟨v, w, u, rfl, f3 H1 (Same.refl _)⟩
        | [], _, _, hw => exact nomatch hw
        | [_], _, _, hw => exact nomatch hw
        | [_, _], _, _, hw => exact nomatch hw
        | _ :: _ :: _ :: _ :: _, _, _, hw => exact nomatch hw
  · cases h3

/-! ### what they leave -/
variable {K : PySem.W.Frag} {U0 : AS} {H0 F : Hp}
theorem fresh_up {σ : L2.St} {H H' : Hp} {env : Env} {xs : List D} {v : V} (o : SOk K U0 H0 F σ H env) (s : Same H H') (hfl : D.flats xs = true) (f : Fresh K U0 H H' xs v) : Fresh K (AU U0 env σ) H H' xs v := by
  obtain ⟨a, vs, rfl, h1, h2, h3⟩ := f
  refine ⟨a, vs, rfl, h1, h2, ?_⟩
  have h4 := (o.mono s).flats hfl (h3.mono (hide_anti fun b z => .inl z))
  have h5 := RpAll.hid (U := fun b => b = a) (fun b hb => by subst hb; exact ⟨vs, by rw [hide_out (fun w => (o.liveA b w) h1)]; exact h2⟩) xs vs hfl h4
  refine h5.mono fun b u e => ?_
  obtain ⟨n1, e⟩ := hide_some e
  obtain ⟨n2, e⟩ := hide_some e
  rw [hide_out (fun w => w.elim n2 n1)]
  exact e
theorem parE_ok : ∀ (ts : List (Nat × Bool)) (es : E) (ds : List D) (vs : List V) {free : Bool} {σ : L2.St} {H H' : Hp} {env env' : Env}, SOk K U0 H0 F σ H env → (free = true → (∀ b, OwnA env σ b → False) ∧ ∀ p ∈ ts, p.2 = false) → Chain T K U0 es H H' ds vs → parE T free ts es ds env = some env' →
    vs.length = ts.length ∧ SOk K U0 H0 F (setV σ ((ts.map (·.1)).zip vs)) H' env'
  | [], es, ds, vs, free, σ, H, H', env, env', o, hf, c, h => by
    cases es <;> try (exact c.elim)
    · obtain ⟨rfl, rfl, s⟩ := c
      simp only [parE, Option.some.injEq] at h
      subst h
      exact ⟨rfl, o.mono s⟩
    · obtain ⟨d, ds', v, vs', H1, rfl, rfl, _⟩ := c
      simp [parE] at h
  | (i, b) :: ts, es, ds, vs, free, σ, H, H', env, env', o, hf, c, h => by
    cases es <;> try (exact c.elim)
    · obtain ⟨rfl, rfl, s⟩ := c
      simp [parE] at h
    · rename_i a es
      obtain ⟨d, ds', v, vs', H1, rfl, rfl, s1, p1, f1, c1⟩ := c
      simp only [parE] at h
      cases b with
      | true =>
        simp only [if_true] at h
        cases d with
        | lst xs =>
          simp only at h
          split at h
          · rename_i hb
            simp only [Bool.and_eq_true] at hb
            have o1 : SOk K U0 H0 F (σ.set i (some v)) H1 (env.set i (some (.lst xs, true))) := o.fresh s1 (fresh_up o s1 hb.2 (f1 hb.1 xs rfl))
            obtain ⟨l1, o2⟩ := parE_ok ts es ds' vs' o1 (fun hfr => nomatch ((hf hfr).2 (i, true) (by simp))) c1 h
            exact ⟨by simp [l1], o2⟩
          · cases h
        | _ => cases h
      | false =>
        simp only [Bool.false_eq_true, if_false] at h
        split at h
        · rename_i hb
          simp only [Bool.or_eq_true] at hb
          have om := o.mono s1
          have p2 : Rp K (hide H1 (AU U0 env σ)) d v := by
            rcases hb with hb | hb
            · exact om.flat hb p1
            · exact p1.mono (hide_anti fun b w => w.elim id fun z => ((hf hb).1 b z).elim)
          have o1 := om.store (i := i) p2
          have hown : free = true → ∀ b, OwnA (env.set i (some (d, false))) (σ.set i (some v)) b → False := fun hfr b ⟨j, d', e1, e2⟩ => by
            by_cases hj : i = j
            · subst hj
              by_cases hi : i < env.length
              · rw [List.getElem?_set_self hi] at e1; cases e1
              · rw [List.getElem?_eq_none (by simpa using hi)] at e1; cases e1
            · rw [List.getElem?_set_ne hj] at e1 e2
              exact (hf hfr).1 b ⟨j, d', e1, e2⟩
          obtain ⟨l1, o2⟩ := parE_ok ts es ds' vs' o1 (fun hfr => ⟨hown hfr, fun p hp => (hf hfr).2 p (by simp [hp])⟩) c1 h
          exact ⟨by simp [l1], o2⟩
        · cases h
theorem chkA_len {pes : List Expr} : ∀ {e : E} {r : Rho} {d : D} {pes : List Expr}, chkA T e S pes = true → ev T e r = .val d → ∃ ds, d = .lst ds ∧ ds.length = pes.length := by
  intro e
  induction e with
  | anil =>
    intro r d pes h e
    rcases chkA_inv h with ⟨_, rfl⟩ | ⟨_, _, _, _, z, _⟩
    · cases e; exact ⟨[], rfl, rfl⟩
    · cases z
  | acons a es ia ie =>
    intro r d pes h e
    rcases chkA_inv h with ⟨z, _⟩ | ⟨_, _, p, ps, z, rfl, h1, h2⟩
    · cases z
    · cases z
      simp only [ev] at e
      cases e1 : ev T a r with
      | val x =>
        cases e2 : ev T es r with
        | val y =>
          rw [e1, e2] at e
          obtain ⟨ds, rfl, hl⟩ := ie h2 e2
          cases e
          exact ⟨x :: ds, rfl, by simp [hl]⟩
        | exc k => rw [e1, e2] at e; cases e
        | bad => rw [e1, e2] at e; cases e
      | exc k => rw [e1] at e; cases e
      | bad => rw [e1] at e; cases e
  | _ => intro r d pes h; exact nope (show false = true from h)
theorem ps_parS (g : GdS T cls S X W) {ts : List (Nat × Bool)} {es : E} {fz : List Nat} {st : Stmt} {env : Env} (h : chkS T S (.par ts es fz) st = true) : PS X st (tSt X.K cls W U0 H0 F env (exec T (.par ts es fz) env)) := by
  simp only [chkS] at h
  split at h
  · rename_i tgs k1 p1 vs k2 p2 pos
    simp only [Bool.and_eq_true] at h
    obtain ⟨⟨⟨⟨h0, h1⟩, h2⟩, h3⟩, h4⟩ := h
    refine PS.imp (PS.ex fun U => ps_parE g (U := U) (r := visE (frz env fz)) h1 h2 h3 h4) fun D σ H q => ?_
    obtain ⟨o, q⟩ := q
    simp only [exec] at q
    have of := o.frz fz
    refine ⟨U0, of.liveH, of.rho, ?_⟩
    cases ee : ev T es (visE (frz env fz)) with
    | bad => rw [ee] at q; exact q
    | exc c =>
      rw [ee] at q
      obtain ⟨C, e1, q⟩ := q
      exact ⟨C, e1, fun H' s => q σ H' (of.same.trans s)⟩
    | val d =>
      rw [ee] at q
      cases d with
      | lst ds =>
        refine ⟨ds, rfl, fun us H' s c => ?_⟩
        simp only [Res.out] at q
        split at q
        · rename_i e' he
          have hfree : (noOwn (frz env fz) && ts.all fun p => !p.2) = true → (∀ b, OwnA (frz env fz) σ b → False) ∧ ∀ p ∈ ts, p.2 = false := fun hz => by
            simp only [Bool.and_eq_true] at hz
            refine ⟨fun b ⟨j, d', e1, e2⟩ => ?_, fun p hp => ?_⟩
            · have := List.all_eq_true.mp hz.1 _ (List.mem_of_getElem? e1)
              exact nope this
            · have := List.all_eq_true.mp hz.2 p hp
              simpa using this
          obtain ⟨l1, o2⟩ := parE_ok ts es ds us of hfree c he
          refine ⟨by simp [l1], ?_, fun H2 s2 => q _ _ (o2.mono s2)⟩
          rw [l1, sizeLine_eq]
          have hl : ts.length ≤ 1000 := Nat.le_of_ble_eq_true h0
          omega
        · exact q.elim
      | _ => exact q.elim
  · cases h
end
end CS

/-! a try whose clause tells which error it was -/
namespace CS
open PySem L2 PySem.Spec PyProof.Rows

section
variable {T : Tb} {cls : Nat → Option Addr} {S : Sx} {X : Cx} {W : WX}
theorem ex_get {k : Nat} {y : Str} (h : (match T.exs[k]? with | some z => decide (z = y) | none => false) = true) : T.exs[k]? = some y := by
  split at h
  · rename_i z e
    rw [e, of_decide_eq_true h]
  · cases h
/-- the errors that a clause asks for -/
theorem is_mem {n : Str} : ∀ {c : List Nat} {es : List Expr}, chkIs T S n c es = true → es.length = c.length ∧ ∀ k ∈ c, (∃ y, T.exs[k]? = some y) ∧ k ≠ 0
  | [], [], _ => ⟨rfl, fun k hk => nomatch hk⟩
  | [], _ :: _, h => nope (show false = true from h)
  | k :: ks, e :: es, h => by
    unfold chkIs at h
    split at h
    · rename_i e1 e2; cases e1
    · rename_i k' ks' x p1 m p2 y p3 p4 es' e1 e2
      cases e1
      cases e2
      simp only [Bool.and_eq_true] at h
      obtain ⟨l, w⟩ := is_mem h.2
      refine ⟨by simp [l], fun j hj => ?_⟩
      rcases List.mem_cons.mp hj with rfl | hj
      · exact ⟨⟨y, ex_get h.1.1.1.1.2⟩, by simpa using h.1.2⟩
      · exact w j hj
    · cases h
  | k :: ks, [], h => by
    unfold chkIs at h
    cases h
/-- [isinstance(n, C), …] in the clause that holds error k -/
theorem pa_is {ie : Nat} {n : Str} {a D : Addr} {oe : Obj} {pn : List (Addr × Obj)} {k : Nat} {x : Str} (g : GdS T cls S X W) (hk : T.exs[k]? = some x) (hk0 : k ≠ 0) (hD : cls k = some D) (hz : Zc (.ref D) none oe) (hf : ∃ vs, oe.data = .fields vs)
    (hN : X.N[ie]? = some n) (hv : Vis X.env.scope n) (hpl : plainN n = true) : ∀ {c : List Nat} {es : List Expr}, chkIs T S n c es = true →
    PA (X.suite a ((a, oe) :: pn)) es (fun σ H Q => σ[ie]? = some (some (.ref a)) ∧ Q (c.map fun j => V.bl (j == k)) H)
  | [], [], _ => ⟨fun pos pins s σ H Q I q => pa_nil.run pos pins s σ H Q I q.2⟩
  | [], _ :: _, h => nope (show false = true from h)
  | j :: js, [], h => by
    unfold chkIs at h
    cases h
  | j :: js, e :: es, h => by
    unfold chkIs at h
    split at h
    · rename_i e1 e2; cases e1
    · rename_i k' ks' x' p1 m p2 y p3 p4 es' e1 e2
      cases e1
      cases e2
      simp only [Bool.and_eq_true, decide_eq_true_eq] at h
      obtain ⟨⟨⟨⟨⟨⟨⟨rfl, h1⟩, rfl⟩, h2⟩, h3⟩, h4⟩, h5⟩, h6⟩ := h
      have hj := ex_get h2
      obtain ⟨C, c1, xo⟩ := g.exs _ _ hj
      obtain ⟨E1, _, E3⟩ := g.exq _ _ _ hk hD hk0
      have hj0 : j ≠ 0 := by simpa using h5
      have hkit := E3 _ _ _ hj c1 hj0
      obtain ⟨d1, d2, _⟩ := plain_db hpl
      obtain ⟨d1', d2', _⟩ := plain_db h4
      have ih := pa_is (a := a) (pn := pn) g hk hk0 hD hz hf hN hv hpl h6
      have pv1 : PE (X.suite a ((a, oe) :: pn)) (.Name m p2) (tVar ie) := pe_var hN hv d1 d2
      have pg1 : PE (X.suite a ((a, oe) :: pn)) (.Name y p3) (tC (.ref C)) := pe_glob (v := .ref C) (g.gl h3) xo.g rfl d1'
      have pc := pe_callB (X := X.suite a ((a, oe) :: pn)) (pos := p4) (p := p1) (call_isE E1 hz hf) (g.gl h1) (g.blt _ (by decide +kernel)) PyProof.Rows.boot_isinstance (pa_cons pv1 (pa_cons pg1 pa_nil rfl) rfl) (by decide) (by decide) rfl rfl
      refine ⟨fun pos pins s σ H Q I q => (pa_cons pc ih rfl).run pos pins s σ H Q I ?_⟩
      refine ⟨_, q.1, .ref C, .ref C, _, rfl, fun u z => z, hkit, q.1, q.2⟩
    · cases h

theorem idx_ok {c : List Nat} {k j : Nat} (h : c.findIdx? (fun i => i == k) = some j) : (c.map fun i => V.bl (i == k))[j]? = some (.bl true) ∧ ∀ (m : Nat) (z : V), m < j → (c.map fun i => V.bl (i == k))[m]? = some z → eqV z (.bl true) = false := by
  rw [List.findIdx?_eq_some_iff_getElem] at h
  obtain ⟨h1, h2, h3⟩ := h
  refine ⟨?_, fun m z hm hz => ?_⟩
  · rw [List.getElem?_map, List.getElem?_eq_getElem h1]
    simp [h2]
  · have hmc : m < c.length := Nat.lt_trans hm h1
    rw [List.getElem?_map, List.getElem?_eq_getElem hmc] at hz
    simp at hz
    subst hz
    have := h3 m hm
    simp at this
    simp [eqV, this]
theorem bl_flat {c : List Nat} {k : Nat} : (c.map fun i => V.bl (i == k)).all flatV = true := by
  rw [List.all_eq_true]
  intro v hv
  obtain ⟨i, _, rfl⟩ := List.mem_map.mp hv
  rfl
theorem nostarT {p : Pos} {b : Bool} {s : _} : ∀ x q, Expr.Constant (.bool b) s p ≠ .Starred x q := fun _ _ z => nomatch z
/-- the clause's suite -/
theorem pss_su {ie il : Nat} {n : Str} {a D : Addr} {oe : Obj} {pn : List (Addr × Obj)} {k j : Nat} {x : Str} (g : GdS T cls S X W) (hk : T.exs[k]? = some x) (hk0 : k ≠ 0) (hD : cls k = some D) (hz : Zc (.ref D) none oe) (hf : ∃ vs, oe.data = .fields vs)
    (hN : X.N[ie]? = some n) (hv : Vis X.env.scope n) (hpl : plainN n = true) {cs : List (List Nat)} {suite : List Stmt} (h : chkSu T S n il cs suite = true) (hj : cs.flatten.findIdx? (fun i => i == k) = some j) :
    PSs (X.suite a ((a, oe) :: pn)) suite (fun D σ H => σ.length = X.N.length ∧ σ[ie]? = some (some (.ref a)) ∧ ∀ H', Same H H' → D.rt (.int j) H') := by
  unfold chkSu at h
  split at h
  · rename_i c es p1 m ap b q1 q2 cp q3
    simp only [Bool.and_eq_true, decide_eq_true_eq] at h
    obtain ⟨⟨⟨⟨rfl, rfl⟩, h1⟩, h2⟩, h3⟩ := h
    have pl := pe_lst (pos := p1) (pa_is (a := a) (pn := pn) g hk hk0 hD hz hf hN hv hpl h3)
    have ha : PA (X.suite a ((a, oe) :: pn)) [.Constant (.bool true) q1 q2] (tCons (tC (.bl true)) tNil) := pa_cons pe_bl pa_nil rfl
    refine PSs.imp (pss_one (ps_ret (pe_bm PySem.F.plainAttrs_list PySem.F.slot_list_index PySem.F.type_list_index mt_index pl ha rfl rfl h1 rfl rfl))) fun D σ H q => ?_
    obtain ⟨l, q0, q⟩ := q
    have hlen := (is_mem h3).1
    have hj' : c.findIdx? (fun i => i == k) = some j := by simpa using hj
    obtain ⟨w1, w2⟩ := idx_ok hj'
    refine ⟨q0, ?_, fun p hp => ⟨.inl ⟨rfl, _, SqL.of upd_same⟩, ?_⟩⟩
    · rw [List.length_map, ← hlen, sizeLine_eq]
      have := Nat.le_of_ble_eq_true h2
      omega
    · exact ⟨p, _, _, j, _, rfl, rfl, SqL.of upd_same, rfl, bl_flat, w1, rfl, w2, q _ (Same.new hp)⟩
  · rename_i c1 c2 c3 f1 p1 e1 p2 p3 f2 p4 f3 p5 e2 p6 p7 p8 f4 p9 e3 p10 p11 m ap b q1 q2 cp q3
    simp only [Bool.and_eq_true, decide_eq_true_eq] at h
    obtain ⟨⟨⟨⟨⟨⟨⟨⟨⟨⟨⟨⟨⟨⟨⟨rfl, rfl⟩, h1⟩, l1⟩, l2⟩, l3⟩, i1⟩, i2⟩, i3⟩, a1⟩, a2⟩, a3⟩, rfl⟩, rfl⟩, rfl⟩, hne⟩ := h
    have hN2 : X.N[il]? = some f4 := g.at a1
    have hloc : L2.Loc X.env.scope f4 ∧ (X.fn f4 = true ∨ X.env.scope.names.lookup f4 = some .local) := g.sto a2
    have hvis : Vis X.env.scope f4 := by
      rcases hloc.1 with z | z
      · exact .inl z
      · exact .inr (.inl z)
    obtain ⟨d1, d2, _⟩ := plain_db a3
    have hil : il ≠ ie := fun z => by
      subst z
      rw [hN2] at hN
      cases hN
      simp at hne
    let X' := X.suite a ((a, oe) :: pn)
    have pl1 := pe_lst (pos := p2) (pa_is (a := a) (pn := pn) g hk hk0 hD hz hf hN hv hpl i1)
    have pl2 := pe_lst (pos := p6) (pa_is (a := a) (pn := pn) g hk hk0 hD hz hf hN hv hpl i2)
    have pl3 := pe_lst (pos := p10) (pa_is (a := a) (pn := pn) g hk hk0 hD hz hf hN hv hpl i3)
    have v2 : PE X' (.Name f4 p5) (tVar il) := pe_var hN2 hvis d1 d2
    have v3 : PE X' (.Name f4 p9) (tVar il) := pe_var hN2 hvis d1 d2
    have ha : PA X' [.Constant (.bool true) q1 q2] (tCons (tC (.bl true)) tNil) := pa_cons pe_bl pa_nil rfl
    have s1 : PS X' (.Assign [.Name f4 p1] (.List e1 p2) p3) _ := ps_set g.nd hN2 hloc.1 pl1 rfl hloc.2
    have s2 : PS X' (.Assign [.Name f4 p4] (.BinOp (.Name f4 p5) .Add (.List e2 p6) p7) p8) _ := ps_set g.nd hN2 hloc.1 (pe_op op_cat v2 pl2) rfl hloc.2
    have s3 : PS X' (.Return (some (.Call (.Attribute (.BinOp (.Name f4 p9) .Add (.List e3 p10) p11) "index" ap) [.Constant (.bool true) q1 q2] [] cp)) q3) _ := ps_ret (pe_bm PySem.F.plainAttrs_list PySem.F.slot_list_index PySem.F.type_list_index mt_index (pe_op op_cat v3 pl3) ha rfl rfl h1 rfl rfl)
    refine PSs.imp (pss_cons s1 (pss_cons s2 (pss_one s3))) fun D σ H q => ?_
    obtain ⟨l, q0, q⟩ := q
    have n1 := (is_mem i1).1
    have n2 := (is_mem i2).1
    have n3 := (is_mem i3).1
    have m1 := Nat.le_of_ble_eq_true l1
    have m2 := Nat.le_of_ble_eq_true l2
    have m3 := Nat.le_of_ble_eq_true l3
    have hlt : il < σ.length := by
      rw [l]
      exact (List.getElem?_eq_some_iff.mp hN2).1
    have hj' : (c1 ++ (c2 ++ c3)).findIdx? (fun i => i == k) = some j := by simpa using hj
    obtain ⟨w1, w2⟩ := idx_ok hj'
    have get1 : ∀ v : V, (σ.set il (some v))[ie]? = some (some (.ref a)) := fun v => by rw [List.getElem?_set_ne hil]; exact q0
    have get2 : ∀ v : V, (σ.set il (some v))[il]? = some (some v) := fun v => by rw [List.getElem?_set_self hlt]
    refine ⟨q0, ?_, fun p hp => ?_⟩
    · rw [List.length_map, ← n1, sizeLine_eq]; omega
    refine ⟨_, get2 _, get1 _, ?_, fun p' hp' => ?_⟩
    · rw [List.length_map, ← n2, sizeLine_eq]; omega
    have ne1 : p ≠ p' := fun z => by subst z; rw [upd_same] at hp'; cases hp'
    refine ⟨p, p', _, _, rfl, rfl, (upd_ne ne1).trans upd_same, upd_same, ?_, fun p'' hp'' => ?_⟩
    · rw [List.length_map, List.length_map, ← n2, ← n1, sizeLine_eq]; omega
    have gS : ∀ v v' : V, ((σ.set il (some v)).set il (some v'))[il]? = some (some v') := fun v v' => by rw [List.getElem?_set_self (by simpa using hlt)]
    have gE : ∀ v v' : V, ((σ.set il (some v)).set il (some v'))[ie]? = some (some (.ref a)) := fun v v' => by rw [List.getElem?_set_ne hil]; exact get1 v
    refine ⟨_, gS _ _, gE _ _, ?_, fun r hr => ?_⟩
    · rw [List.length_map, ← n3, sizeLine_eq]; omega
    have ne2 : p'' ≠ r := fun z => by subst z; rw [upd_same] at hr; cases hr
    refine ⟨p'', r, _, _, rfl, rfl, (upd_ne ne2).trans upd_same, upd_same, ?_, fun r' hr' => ?_⟩
    · rw [List.length_append, List.length_map, List.length_map, List.length_map, ← n3, ← n2, ← n1, sizeLine_eq]; omega
    refine ⟨.inl ⟨rfl, _, SqL.of upd_same⟩, ?_⟩
    have eL : (c1.map fun i => V.bl (i == k)) ++ (c2.map fun i => V.bl (i == k)) ++ (c3.map fun i => V.bl (i == k)) = ((c1 ++ (c2 ++ c3)).map fun i => V.bl (i == k)) := by simp
    refine ⟨r', _, _, j, .bl true, rfl, rfl, SqL.of upd_same, rfl, ?_, ?_, rfl, ?_, q _ ?_⟩
    · rw [eL]; exact bl_flat
    · rw [eL]; exact w1
    · rw [eL]; exact w2
    · exact ((((Same.new hp).trans (Same.new hp')).trans (Same.new hp'')).trans (Same.new hr)).trans (Same.new hr')
  · cases h

theorem GdS.tr (g : GdS T cls S X W) {W' : WX} {pn : List (Addr × Obj)} {xe : Value → Shared → Prop} (tk : Takes (X.tr pn xe) W') (pa : PassesOwn (model X.prog X.w) X.A X.env xe) : GdS T cls S (X.tr pn xe) W' where
  calm := g.calm
  nd := g.nd
  hN := g.hN
  sc := g.sc
  fn := g.fn
  un := g.un
  tk := tk
  blt := g.blt
  con := g.con
  fns := fun f hf => ⟨(g.fns f hf).ex⟩
  pass := pa
  kind := g.kind
  exs := g.exs
  exq := g.exq
  stk := g.stk
  frm := g.frm

theorem ps_tryE {U0 : AS} {H0 F : Hp} {env : Env} {b : CS.S} {ie il : Nat} {cs : List (List Nat)} (g : GdS T cls S X W)
    (ib : ∀ {X : Cx} {W : WX} {sts : List Stmt}, GdS T cls S X W → chkSs T S b sts = true → PSs X sts (tSt X.K cls W U0 H0 F env (exec T b env))) {st : Stmt} (h : chkS T S (.tryE b ie il cs) st = true) :
    PS X st (tSt X.K cls W U0 H0 F env (exec T (.tryE b ie il cs) env)) := by
  simp only [chkS] at h
  split at h
  · rename_i body x px n suite p1 p2
    simp only [Bool.and_eq_true] at h
    obtain ⟨⟨⟨⟨⟨⟨⟨h0, h1⟩, h2⟩, h3⟩, h4⟩, h5⟩, h6⟩, h7⟩ := h
    have hln : S.sc.names.lookup n = some .local := eq_of_beq h2
    have hln' : X.env.kindOf n = some .local := by unfold Env.kindOf; rw [g.sc]; exact hln
    have hx0 := ex_get h4
    obtain ⟨C0, c0, xo0⟩ := g.exs _ _ hx0
    obtain ⟨d1, d2, _⟩ := plain_db h6
    have hN := g.at h1
    have hc : Names X x (.ref C0) := ⟨g.gl h5, d1, .inl xo0.g⟩
    have hmem : ∀ k ∈ cs.flatten, (∃ y, T.exs[k]? = some y) ∧ k ≠ 0 := fun k hk => by
      unfold chkSu at h7
      split at h7
      · simp only [Bool.and_eq_true] at h7
        exact (is_mem h7.2).2 k (by simpa using hk)
      · simp only [Bool.and_eq_true] at h7
        obtain ⟨⟨⟨⟨⟨⟨⟨⟨⟨⟨_, i1⟩, i2⟩, i3⟩, _⟩, _⟩, _⟩, _⟩, _⟩, _⟩, _⟩ := h7
        simp only [List.flatten_cons, List.flatten_nil, List.append_nil, List.mem_append] at hk
        rcases hk with hk | hk | hk
        · exact (is_mem i1).2 k hk
        · exact (is_mem i2).2 k hk
        · exact (is_mem i3).2 k hk
      · cases h7
    obtain ⟨b0, rest, rfl⟩ : ∃ b0 rest, suite = b0 :: rest := by
      cases suite with
      | cons a b => exact ⟨a, b, rfl⟩
      | nil =>
        unfold chkSu at h7
        split at h7
        · rename_i z; cases z
        · rename_i z; cases z
        · cases h7
    let ts : Addr → Value → Option Addr → TS := fun a c d D σ H => ∃ (k j : Nat) (C : Addr) (y : Str), c = .ref C ∧ d = none ∧ cls k = some C ∧ T.exs[k]? = some y ∧ k ≠ 0 ∧ cs.flatten.findIdx? (fun i => i == k) = some j ∧ (σ.length = X.N.length → σ[ie]? = some (some (.ref a))) ∧ ∀ H', Same H H' → D.rt (.int j) H'
    refine PS.imp (ps_try_as (tb := fun W' => tSt X.K cls W' U0 H0 F env (exec T b env)) (ts := ts) g.stk g.frm g.nd hN hln' hc g.tk (fun W' pn xe tk pa => ib (g.tr tk pa) h0) fun a oe c d pn hz hf => ?_) fun D σ H q => ?_
    · refine ⟨fun pins s σ H D I q => ?_⟩
      obtain ⟨k, j, C, y, rfl, rfl, hk1, hk2, hk3, hj, hs, q⟩ := q
      have hz' : Zc (.ref C) none oe := ⟨hz.1, hz.2⟩
      exact (pss_su (a := a) (pn := pn) g hk2 hk3 hk1 hz' hf hN (.inl hln') h3 h7 hj).run pins s σ H D I ⟨I.len, hs I.len, q⟩
    · obtain ⟨o, q⟩ := q
      refine ⟨o, ?_⟩
      simp only [exec] at q
      cases ee : exec T b env with
      | nx e' => rw [ee] at q; exact q
      | rt d fr => rw [ee] at q; exact q
      | bad => rw [ee] at q; exact q
      | ex k =>
        rw [ee] at q
        simp only at q
        cases hj : cs.flatten.findIdx? (fun i => i == k) with
        | none => rw [hj] at q; exact q.elim
        | some j =>
          rw [hj] at q
          have hk : k ∈ cs.flatten := by
            have := hj
            rw [List.findIdx?_eq_some_iff_getElem] at this
            obtain ⟨z1, z2, _⟩ := this
            have : cs.flatten[j] = k := by simpa using z2
            rw [← this]
            exact List.getElem_mem z1
          obtain ⟨⟨y, hy⟩, hk0⟩ := hmem k hk
          obtain ⟨C, c1, _⟩ := g.exs _ _ hy
          obtain ⟨_, E2, _⟩ := g.exq _ _ _ hy c1 hk0
          refine ⟨C, c1, fun σ' H' s => ⟨true, E2 C0 c0, fun _ a ha => ?_, fun z => nomatch z⟩⟩
          refine ⟨k, j, C, y, rfl, rfl, c1, hy, hk0, hj, fun hl => ?_, fun H2 s2 => q (.int j) H2 (s.trans s2) (rp_int.mpr rfl) fun z => nomatch z⟩
          have : ie < σ'.length := by
            rw [List.length_set] at hl
            rw [hl]
            exact (List.getElem?_eq_some_iff.mp hN).1
          rw [List.getElem?_set_self this]
  · cases h
end
end CS

/-! the other statements; a def -/
namespace CS
open PySem L2 PySem.Spec PyProof.Rows

theorem PSs.ex {X : Cx} {α : Type} {e : List Stmt} {t : α → TS} (p : ∀ a, PSs X e (t a)) : PSs X e (fun D σ H => ∃ a, t a D σ H) := ⟨fun pins s σ H Q I ⟨a, q⟩ => (p a).run pins s σ H Q I q⟩
def rGetL : V → V → Hp → VK → Prop := fun o i H Q => ∃ p xs k v, o = .ref p ∧ i = .int k ∧ H p = some (.lst xs) ∧ atI xs k = some v ∧ Q v H
theorem get_list {X : Cx} : PGet X rGetL := by
  intro pins s σ H o i ov iv Q I ro ri h
  obtain ⟨p, xs, k, v, rfl, rfl, hp, he, q⟩ := h
  cases ro
  obtain ⟨t, rfl⟩ := ri
  obtain ⟨its, r, pl, hz⟩ := I.list (SqL.of hp)
  obtain ⟨j, h1, h2, h3, h4, h5⟩ := atI_get he
  obtain ⟨w, ew, rw'⟩ := r.get h2
  have hl := r.length
  have hn := line63
  have fin : EP X pins σ Q w s := ⟨v, H, I, rw', q⟩
  by_cases h0 : 0 ≤ k
  · have hj : k.toNat = j := by
      rw [seqIndex_of h0 h5] at h1
      exact Option.some.inj h1
    exact wpAny_getItem_list pl.isList h0 (by omega) (by rw [hj]; simpa using ew) fin
  · have hj : (k + (its.toArray.size : Int)).toNat = j := by
      rw [seqIndex_neg (by omega) h4] at h1
      rw [List.size_toArray, ← hl]
      exact Option.some.inj h1
    exact wpAny_getItem_list_neg pl.isList (by omega) (by rw [List.size_toArray] <;> omega) (by omega) (by rw [hj]; simpa using ew) fin

section
variable {T : Tb} {cls : Nat → Option Addr} {S : Sx} {X : Cx} {W : WX} {U0 : AS} {H0 F : Hp} {env : Env}
theorem slice_no {j : Expr} (h : (match j with | .Slice .. => false | _ => true) = true) : (∀ o i, subscripted j false o i = operate [o, i] (getItem o i)) ∧ (∀ ov iv new, augStore j ov iv new = (do holding [new, ov, iv] (setItem ov iv new); release [new, ov, iv] []; pure .next)) := by
  cases j <;> first | exact ⟨fun _ _ => rfl, fun _ _ _ => rfl⟩ | exact nope (show false = true from h)
theorem ps_setix (g : GdS T cls S X W) {x : Nat} {i e : E} {st : Stmt} (h : chkS T S (.setix x i e) st = true) : PS X st (tSt X.K cls W U0 H0 F env (exec T (.setix x i e) env)) := by
  simp only [chkS] at h
  split at h
  · rename_i n np j jp v pos
    simp only [Bool.and_eq_true, Bool.not_eq_true'] at h
    obtain ⟨⟨⟨⟨⟨⟨h0, h1⟩, h2⟩, h3⟩, h4⟩, h5⟩, h6⟩ := h
    obtain ⟨d1, d2, _⟩ := plain_db h4
    have pv := pe_var (pos := np) (g.at h2) (g.vis h3) d1 d2
    have ha : ∀ v, assign (.Subscript (.Name n np) j jp) X.env v = (do
        let ov ← holding [v] (eval (.Name n np) X.env)
        let iv ← holding [v, ov] (eval j X.env)
        standAt jp
        holding [v, ov, iv] (setItem ov iv v)
        release [v, ov, iv] []) := by
      intro v
      cases j <;> first | rfl | exact nope (show false = true from h0)
    refine PS.imp (ps_asg ((snd e).pe U0 (visE env) g.toGd h6) (pg_sub pv ((snd i).pe U0 (visE env) g.toGd h5) set_list ha) (by show swapsWith v (some (.Subscript (.Name n np) j jp)) pos.line X.env = pure false; exact comp_sw h1) rfl rfl) fun D σ H q => ?_
    obtain ⟨o, q⟩ := q
    simp only [exec] at q
    split at q
    · rename_i xs ex
      refine run_vis o q fun d v H1 s1 o1 p1 _ q1 => ?_
      obtain ⟨a, xs', vs, e1, e2, e3, e4, e5⟩ := o1.own x _ ex
      cases e1
      refine ⟨.ref a, e2, run_vis o1 q1 fun jd w H2 s2 o2 p2 _ q2 => ?_⟩
      obtain ⟨a', xs'', vs', f1, f2, f3, f4, f5⟩ := o2.own x _ ex
      cases f1
      rw [e2] at f2
      cases f2
      cases jd with
      | int k =>
        simp only at q2
        split at q2
        · rename_i n' en
          split at q2
          · rename_i hfl
            refine ⟨a, vs', k, n', rfl, rp_int.mp p2, f3, by rw [← f5.length]; exact en, ?_⟩
            exact q2 _ _ (o2.change ex e2 (f5.set (o2.flat hfl (p1.mono (hide_mono s2))) n'))
          · exact q2.elim
        · exact q2.elim
      | _ => exact q2.elim
    · exact q.elim
  · cases h
theorem ps_augix (g : GdS T cls S X W) {x : Nat} {i e : E} {st : Stmt} (h : chkS T S (.augix x i e) st = true) : PS X st (tSt X.K cls W U0 H0 F env (exec T (.augix x i e) env)) := by
  simp only [chkS] at h
  split at h
  · rename_i n np j jp v pos
    simp only [Bool.and_eq_true] at h
    obtain ⟨⟨⟨⟨⟨h0, h2⟩, h3⟩, h4⟩, h5⟩, h6⟩ := h
    obtain ⟨d1, d2, _⟩ := plain_db h4
    have pv := pe_var (pos := np) (g.at h2) (g.vis h3) d1 d2
    refine PS.imp (ps_augS pv ((snd i).pe U0 (visE env) g.toGd h5) get_list ((snd e).pe U0 (visE env) g.toGd h6) ip_add set_list (slice_no h0).2) fun D σ H q => ?_
    obtain ⟨o, q⟩ := q
    simp only [exec] at q
    split at q
    · rename_i xs ex
      obtain ⟨a, xs', vs, e1, e2, e3, e4, e5⟩ := o.own x _ ex
      cases e1
      refine ⟨.ref a, e2, run_vis o q fun jd w H1 s1 o1 p1 _ q1 => ?_⟩
      obtain ⟨a', xs'', vs', f1, f2, f3, f4, f5⟩ := o1.own x _ ex
      cases f1
      rw [e2] at f2
      cases f2
      cases jd with
      | int k =>
        simp only at q1
        split at q1
        · rename_i n' en
          split at q1
          · rename_i pi epi
            obtain ⟨vv, g1, g2⟩ := f5.get epi
            have gv := rp_int.mp g2
            subst gv
            refine ⟨a, vs', k, .int pi, rfl, rp_int.mp p1, f3, ?_, ?_⟩
            · unfold atI
              have : L2.ixN vs'.length k = some n' := by rw [← f5.length]; exact en
              rw [this]
              exact g1
            · refine run_vis o1 q1 fun dd u H2 s2 o2 p2 _ q2 => ?_
              cases dd with
              | int qi =>
                refine ⟨pi, qi, rfl, rp_int.mp p2, ?_⟩
                obtain ⟨a', xs'', vs2, k1, k2, k3, k4, k5⟩ := o2.own x _ ex
                cases k1
                rw [e2] at k2
                cases k2
                refine ⟨a, vs2, k, n', rfl, rp_int.mp p1, k3, by rw [← k5.length]; exact en, ?_⟩
                exact q2 _ _ (o2.change ex e2 (k5.set (rp_int.mpr rfl) n'))
              | _ => exact q2.elim
          · exact q1.elim
        · exact q1.elim
      | _ => exact q1.elim
    · exact q.elim
  · cases h
theorem few1 {e : Expr} {env : PySem.Env} {cpos : Pos} (h : ∀ x p, e ≠ .Starred x p) : ((backTo cpos (starEach [e] env)).all (fun x => !x.1) && (backToKw cpos (keywordEach [] env)).all (fun x => x.1.isSome)
      && decide (([e] : List Expr).length + ([] : List Keyword).length + (if ([] : List Keyword).isEmpty then 0 else 1) < 30)) = true := by
  rw [star_cons h]
  rfl
theorem ps_appS (g : GdS T cls S X W) {x : Nat} {e : E} {st : Stmt} (h : chkS T S (.app x e) st = true) : PS X st (tSt X.K cls W U0 H0 F env (exec T (.app x e) env)) := by
  simp only [chkS] at h
  split at h
  · rename_i n np m ap v cp pos
    simp only [Bool.and_eq_true, decide_eq_true_eq] at h
    obtain ⟨⟨⟨⟨⟨rfl, h1⟩, h2⟩, h3⟩, h4⟩, h5⟩ := h
    obtain ⟨d1, d2, _⟩ := plain_db h4
    have hst := chk_nostar h5
    have pv := pe_var (pos := np) (g.at h2) (g.vis h3) d1 d2
    have ha : PA X [v] (tCons (tR X.K cls W U0 (visE env) (isFresh T e) (ev T e (visE env))) tNil) := pa_cons ((snd e).pe U0 (visE env) g.toGd h5) pa_nil (star_cons hst)
    refine PS.imp (ps_expr (pe_bm PySem.F.plainAttrs_list PySem.F.slot_list_append PySem.F.type_list_append mt_append pv ha rfl (few1 hst) h1 (star_cons hst) rfl) rfl) fun D σ H q => ?_
    obtain ⟨o, q⟩ := q
    simp only [exec] at q
    split at q
    · rename_i xs ex
      obtain ⟨a, xs', vs, e1, e2, e3, e4, e5⟩ := o.own x _ ex
      cases e1
      refine ⟨.ref a, e2, Or.inl ⟨rfl, _, SqL.of e3⟩, run_vis o q fun d v H1 s1 o1 p1 _ q1 => ?_⟩
      obtain ⟨a', xs'', vs', f1, f2, f3, f4, f5⟩ := o1.own x _ ex
      cases f1
      rw [e2] at f2
      cases f2
      split at q1
      · rename_i hb
        simp only [Bool.and_eq_true] at hb
        have hl := f5.length
        refine ⟨a, vs', v, rfl, rfl, f3, by have := big_le hb.1; omega, ?_⟩
        exact q1 _ _ (o1.change ex e2 (f5.app (.cons (o1.flat hb.2 p1) .nil)))
      · exact q1.elim
    · exact q.elim
  · cases h
theorem ps_extS (g : GdS T cls S X W) {x : Nat} {e : E} {st : Stmt} (h : chkS T S (.ext x e) st = true) : PS X st (tSt X.K cls W U0 H0 F env (exec T (.ext x e) env)) := by
  simp only [chkS] at h
  split at h
  · rename_i n np m ap v cp pos
    simp only [Bool.and_eq_true, decide_eq_true_eq] at h
    obtain ⟨⟨⟨⟨⟨rfl, h1⟩, h2⟩, h3⟩, h4⟩, h5⟩ := h
    obtain ⟨d1, d2, _⟩ := plain_db h4
    have hst := chk_nostar h5
    have pv := pe_var (pos := np) (g.at h2) (g.vis h3) d1 d2
    have ha : PA X [v] (tCons (tR X.K cls W U0 (visE env) (isFresh T e) (ev T e (visE env))) tNil) := pa_cons ((snd e).pe U0 (visE env) g.toGd h5) pa_nil (star_cons hst)
    refine PS.imp (ps_expr (pe_bm PySem.F.plainAttrs_list PySem.F.slot_list_extend PySem.F.type_list_extend mt_extend pv ha rfl (few1 hst) h1 (star_cons hst) rfl) rfl) fun D σ H q => ?_
    obtain ⟨o, q⟩ := q
    simp only [exec] at q
    split at q
    · rename_i xs ex
      obtain ⟨a, xs', vs, e1, e2, e3, e4, e5⟩ := o.own x _ ex
      cases e1
      refine ⟨.ref a, e2, Or.inl ⟨rfl, _, SqL.of e3⟩, run_vis o q fun d v H1 s1 o1 p1 _ q1 => ?_⟩
      obtain ⟨a', xs'', vs', f1, f2, f3, f4, f5⟩ := o1.own x _ ex
      cases f1
      rw [e2] at f2
      cases f2
      cases d with
      | lst ys =>
        simp only at q1
        split at q1
        · rename_i hb
          simp only [Bool.and_eq_true] at hb
          obtain ⟨b, us, rfl, eb, pb⟩ := rp_lst p1
          have hl := f5.length
          have hl2 := pb.length
          refine ⟨a, b, vs', us, rfl, rfl, f3, hide_le _ _ _ _ eb, by have := big_le hb.1; omega, ?_⟩
          exact q1 _ _ (o1.change ex e2 (f5.app (o1.flats hb.2 pb)))
        · exact q1.elim
      | _ => exact q1.elim
    · exact q.elim
  · cases h
theorem ps_dropS (g : GdS T cls S X W) {e : E} {st : Stmt} (h : chkS T S (.drop e) st = true) : PS X st (tSt X.K cls W U0 H0 F env (exec T (.drop e) env)) := by
  simp only [chkS] at h
  split at h
  · simp only [Bool.and_eq_true, Bool.not_eq_true'] at h
    refine PS.imp (ps_expr ((snd e).pe U0 (visE env) g.toGd h.2) (comp_sw h.1)) fun D σ H q => ?_
    obtain ⟨o, q⟩ := q
    simp only [exec] at q
    exact run_vis o q fun d v H1 s1 o1 p1 _ q1 => q1 _ _ o1
  · cases h
theorem ps_retS (g : GdS T cls S X W) {e : E} {st : Stmt} (h : chkS T S (.ret e) st = true) : PS X st (tSt X.K cls W U0 H0 F env (exec T (.ret e) env)) := by
  simp only [chkS] at h
  split at h
  · refine PS.imp (ps_ret ((snd e).pe U0 (visE env) g.toGd h)) fun D σ H q => ?_
    obtain ⟨o, q⟩ := q
    simp only [exec] at q
    exact run_vis o q fun d v H1 s1 o1 p1 f1 q1 => q1 v H1 o1.same p1 fun hf xs hd => (f1 hf xs hd).back o.same
  · cases h
theorem ps_retOS (g : GdS T cls S X W) {x : Nat} {st : Stmt} (h : chkS T S (.retO x) st = true) : PS X st (tSt X.K cls W U0 H0 F env (exec T (.retO x) env)) := by
  simp only [chkS] at h
  split at h
  · rename_i n np pos
    simp only [Bool.and_eq_true] at h
    obtain ⟨d1, d2, _⟩ := plain_db h.2
    refine PS.imp (ps_ret (pe_var (pos := np) (g.at h.1.1) (g.vis h.1.2) d1 d2)) fun D σ H q => ?_
    obtain ⟨o, q⟩ := q
    simp only [exec] at q
    split at q
    · rename_i xs ex
      obtain ⟨v, z1, z2⟩ := o.own_rp ex
      obtain ⟨a, xs', vs, e1, e2, e3, e4, e5⟩ := o.own x _ ex
      cases e1
      rw [e2] at z1
      cases z1
      refine ⟨.ref a, e2, q _ H o.same z2 fun _ ys hy => ?_⟩
      cases hy
      refine ⟨a, vs, rfl, e4, e3, e5.mono (hide_anti fun b w => w.elim .inl fun z => .inr ⟨x, _, ex, by rw [z]; exact e2⟩)⟩
    · exact q.elim
  · cases h
theorem ps_retNS {st : Stmt} (h : chkS T S .retN st = true) : PS X st (tSt X.K cls W U0 H0 F env (exec T .retN env)) := by
  simp only [chkS] at h
  split at h
  · refine PS.imp ps_retN fun D σ H q => ?_
    obtain ⟨o, q⟩ := q
    exact q .non H o.same (rp_non.mpr rfl) fun z => nomatch z
  · cases h
theorem ps_raisS (g : GdS T cls S X W) {k : Nat} {m : Str} {st : Stmt} (h : chkS T S (.rais k m) st = true) : PS X st (tSt X.K cls W U0 H0 F env (exec T (.rais k m) env)) := by
  simp only [chkS] at h
  split at h
  · rename_i x px u j p2 p3 pos
    simp only [Bool.and_eq_true, decide_eq_true_eq] at h
    obtain ⟨⟨⟨rfl, h1⟩, h2⟩, h3⟩ := h
    split at h1
    · rename_i y ey
      have := of_decide_eq_true h1
      subst this
      obtain ⟨C, c1, xo⟩ := g.exs k _ ey
      obtain ⟨B, newId, initId, bmB, hF, hq⟩ := xo.ex
      obtain ⟨d1, d2, _⟩ := plain_db h3
      refine PS.imp (ps_raise g.calm g.tk (pmk_own hF hq xo.g xo.k (raises_own xo.s xo.t) (g.gl h2) d1)) fun D σ H q => ?_
      obtain ⟨o, q⟩ := q
      simp only [exec] at q
      obtain ⟨C', c2, q⟩ := q
      rw [c1] at c2
      cases c2
      exact q σ H o.same
    · cases h1
  · cases h

/-! ### blocks, branches, loops -/
structure SndS (T : Tb) (cls : Nat → Option Addr) (s : CS.S) : Prop where
  ps : ∀ {S : Sx} {X : Cx} {W : WX} (U0 : AS) (H0 F : Hp) (env : Env) {st : Stmt}, GdS T cls S X W → chkS T S s st = true → PS X st (tSt X.K cls W U0 H0 F env (exec T s env))
  pss : ∀ {S : Sx} {X : Cx} {W : WX} (U0 : AS) (H0 F : Hp) (env : Env) {sts : List Stmt}, GdS T cls S X W → chkSs T S s sts = true → PSs X sts (tSt X.K cls W U0 H0 F env (exec T s env))
theorem snds_stmt {s : CS.S} (h1 : ∀ {S : Sx} {X : Cx} {W : WX} (U0 : AS) (H0 F : Hp) (env : Env) {st : Stmt}, GdS T cls S X W → chkS T S s st = true → PS X st (tSt X.K cls W U0 H0 F env (exec T s env))) (h2 : ∀ S sts, chkSs T S s sts = false) : SndS T cls s :=
  ⟨h1, fun {S X W} U0 H0 F env {sts} g h => by rw [h2] at h; cases h⟩
theorem snds_done : SndS T cls .done := ⟨fun {S X W} U0 H0 F env {st} g h => nope (show false = true from h), fun {S X W} U0 H0 F env {sts} g h => by
  cases sts with
  | cons a b => exact nope (show false = true from h)
  | nil =>
    refine PSs.imp pss_nil fun D σ H q => ?_
    obtain ⟨o, q⟩ := q
    exact q _ _ o⟩
theorem snds_seq {s r : CS.S} (is : SndS T cls s) (ir : SndS T cls r) : SndS T cls (.seq s r) := ⟨fun {S X W} U0 H0 F env {st} g h => nope (show false = true from h), fun {S X W} U0 H0 F env {sts} g h => by
  cases sts with
  | nil => exact nope (show false = true from h)
  | cons st rest =>
    simp only [chkSs, Bool.and_eq_true] at h
    have p2 : PSs X rest (fun D σ H => ∃ e', tSt X.K cls W U0 H0 F e' (exec T r e') D σ H) := PSs.ex fun e' => ir.pss U0 H0 F e' g h.2
    refine PSs.imp (pss_cons (is.ps U0 H0 F env g h.1) p2) fun D σ H q => ?_
    obtain ⟨o, q⟩ := q
    simp only [exec] at q
    refine ⟨o, ?_⟩
    revert q
    cases exec T s env with
    | nx e' => exact fun q σ' H' o' => ⟨e', o', q⟩
    | rt d fr => exact fun q => q
    | ex k => exact fun q => q
    | bad => exact fun q => q⟩
theorem snds_iff {c : E} {a b : CS.S} (ia : SndS T cls a) (ib : SndS T cls b) : SndS T cls (.iff c a b) := snds_stmt (fun {S X W} U0 H0 F env {st} g h => by
  simp only [chkS] at h
  split at h
  · simp only [Bool.and_eq_true] at h
    refine PS.imp (ps_if ((snd c).pt U0 (visE env) g.toGd h.1.1) (ia.pss U0 H0 F env g h.1.2) (ib.pss U0 H0 F env g h.2)) fun D σ H q => ?_
    obtain ⟨o, q⟩ := q
    simp only [exec] at q
    refine runT o q (fun d hd => by cases d <;> first | rfl | exact absurd rfl (hd _)) fun b H1 s1 o1 q1 => ?_
    cases b with
    | true => rw [if_pos rfl]; exact ⟨o1, q1⟩
    | false => rw [if_neg Bool.false_ne_true]; exact ⟨o1, q1⟩
  · cases h) (fun _ _ => rfl)
theorem snds_whil {c : E} {b : CS.S} (ib : SndS T cls b) : SndS T cls (.whil c b) := snds_stmt (fun {S X W} U0 H0 F env {st} g h => by
  simp only [chkS] at h
  split at h
  · simp only [Bool.and_eq_true] at h
    have pc : PT X _ (fun σ H Q => ∃ e1 : Env, tT X.K cls W U0 (visE e1) (ev T c (visE e1)) σ H Q) := ⟨fun pins s σ H Q I ⟨e1, q⟩ => ((snd c).pt U0 (visE e1) g.toGd h.1).run pins s σ H Q I q⟩
    have pb : PSs X _ (fun D σ H => ∃ e1 : Env, tSt X.K cls W U0 H0 F e1 (exec T b e1) D σ H) := PSs.ex fun e1 => ib.pss U0 H0 F e1 g h.2
    refine PS.imp (ps_while g.pass pc pb) fun D σ H q => ?_
    obtain ⟨o, q⟩ := q
    simp only [exec] at q
    refine ⟨fun m σ H => ∃ e1, SOk X.K U0 H0 F σ H e1 ∧ OutK X.K cls W U0 H0 F D (whileGo (fun e1 => (ev T c (visE e1)).bind boolD) (exec T b) m e1), ⟨_, env, o, q⟩, ?_⟩
    rintro m σ H ⟨e1, o, q⟩
    refine ⟨e1, ?_⟩
    cases m with
    | zero => exact q.elim
    | succ m =>
      simp only [whileGo] at q
      refine ⟨o.liveH, o.rho, ?_⟩
      cases ee : ev T c (visE e1) with
      | bad => rw [ee] at q; exact q
      | exc k =>
        rw [ee] at q
        obtain ⟨C, z, q⟩ := q
        exact ⟨C, z, fun H' s => q σ H' (o.same.trans s)⟩
      | val d =>
        rw [ee] at q
        cases d with
        | bl b1 =>
          refine ⟨b1, rfl, fun H1 s1 => ?_⟩
          have o1 := o.mono s1
          cases b1 with
          | true =>
            show if true = true then _ else _
            rw [if_pos rfl]
            simp only [Res.bind, boolD] at q
            refine ⟨fun σ' H' => ∃ e', exec T b e1 = .nx e' ∧ SOk X.K U0 H0 F σ' H' e', fun σ' H' ⟨e', z1, z2⟩ => ⟨m, Nat.lt_succ_self m, e', z2, ?_⟩, e1, o1, ?_⟩
            · rw [z1] at q; exact q
            · cases eb : exec T b e1 with
              | nx e' => exact fun σ' H' z => ⟨e', rfl, z⟩
              | rt d fr => rw [eb] at q; exact q
              | ex k => rw [eb] at q; exact q
              | bad => rw [eb] at q; exact q
          | false =>
            show if false = true then _ else _
            rw [if_neg Bool.false_ne_true]
            exact q _ _ o1
        | _ => exact q.elim
  · cases h) (fun _ _ => rfl)
theorem SOk.weak {K : PySem.W.Frag} {F' : Hp} {σ : L2.St} {H : Hp} (o : SOk K U0 H0 F' σ H env) (s : Same F F') : SOk K U0 H0 F σ H env := ⟨o.len, o.same, o.live, o.val, o.own, o.inj, s.trans o.keep⟩
theorem snds_forr {t : Tg} {it : E} {fz : List Nat} {b : CS.S} (ib : SndS T cls b) : SndS T cls (.forr t it fz b) := snds_stmt (fun {S X W} U0 H0 F env {st} g h => by
  simp only [chkS] at h
  split at h
  · rename_i tg pit l pos
    simp only [Bool.and_eq_true] at h
    obtain ⟨⟨h0, h1⟩, h2⟩ := h
    have pi : PI X tg pit (fun σ H R => ∃ U : AS, tIt X.K cls W U (hidE (frz env fz)) (ev T it (hidE (frz env fz))) σ H R) := ⟨fun pins s σ H R I ⟨U, q⟩ => ((snd it).pi U (hidE (frz env fz)) g.toGd h1).run pins s σ H R I q⟩
    have pg : PG X tg (fun v σ H Q => ∃ U' : AS, tGq X.K U' (fun _ => true) t v σ H Q) := PG.ex fun U' => pg_ok g.toGd U' t h0
    have pb : PSs X l (fun D σ H => ∃ p : Hp × Env, tSt X.K cls W U0 H0 p.1 p.2 (exec T b p.2) D σ H) := PSs.ex fun p => ib.pss U0 H0 p.1 p.2 g h2
    refine PS.imp (ps_for g.pass g.calm pi pg pb (foldedSet_plain h1 X.env)) fun D σ H q => ?_
    obtain ⟨o, q⟩ := q
    simp only [exec] at q
    have of := o.frz fz
    refine ⟨AU U0 (frz env fz) σ, of.liveA, of.rhoH, ?_⟩
    cases ee : ev T it (hidE (frz env fz)) with
    | bad => rw [ee] at q; exact q
    | exc k =>
      rw [ee] at q
      obtain ⟨C, z, q⟩ := q
      exact ⟨C, z, fun H' s => q σ H' (o.same.trans s)⟩
    | val x =>
      rw [ee] at q
      simp only [Res.out] at q
      cases ex : itemsD x with
      | exc k => exact (items_noexc ex).elim
      | bad => rw [ex] at q; exact q.elim
      | val xs =>
        rw [ex] at q
        simp only at q
        refine ⟨xs, ex, fun J H1 s1 wk => ?_⟩
        have o1 := of.mono s1
        let F' : Hp := hide H1 (AU U0 (frz env fz) σ)
        let bd : CS.D → Env → Out := fun d e1 => match bindE t d e1 with | some e2 => exec T b e2 | none => .bad
        refine ⟨fun i m σ H => m = xs.length - i ∧ i ≤ xs.length ∧ ∃ e1, SOk X.K U0 H0 F' σ H e1 ∧ OutK X.K cls W U0 H0 F D (forGo bd (xs.drop i) e1), ⟨xs.length, by simp, Nat.zero_le _, frz env fz, ⟨o1.len, o1.same, o1.live, o1.val, o1.own, o1.inj, Same.refl _⟩, by rw [List.drop_zero]; exact q⟩, ?_⟩
        rintro i m σ2 H2 ⟨rfl, hi, e1, o2, q2⟩
        obtain ⟨w1, w2⟩ := wk _ H2 o2.keep o2.liveA
        by_cases hlt : i < xs.length
        · obtain ⟨go, wy⟩ := w1 i hlt
          have hdrop : xs.drop i = xs[i] :: xs.drop (i + 1) := List.drop_eq_getElem_cons hlt
          rw [hdrop] at q2
          simp only [forGo] at q2
          have hN : ∀ σ' H', (∃ e', bd xs[i] e1 = .nx e' ∧ SOk X.K U0 H0 F' σ' H' e') → ∃ m', m' < xs.length - i ∧ (m' = xs.length - (i + 1) ∧ i + 1 ≤ xs.length ∧ ∃ e1, SOk X.K U0 H0 F' σ' H' e1 ∧ OutK X.K cls W U0 H0 F D (forGo bd (xs.drop (i + 1)) e1)) := fun σ' H' hz => by
            obtain ⟨e', z1, z2⟩ := hz
            rw [z1] at q2
            exact ⟨xs.length - (i + 1), by omega, rfl, by omega, e', z2, q2⟩
          refine .inr ⟨go, fun σ' H' => ∃ e', bd xs[i] e1 = .nx e' ∧ SOk X.K U0 H0 F' σ' H' e', hN, ?_⟩
          · intro v H3 yl
            obtain ⟨s3, d, hd, pd⟩ := wy v H3 yl
            have hd' : d = xs[i] := by
              rw [List.getElem?_eq_getElem hlt] at hd
              exact (Option.some.inj hd).symm
            subst hd'
            have o3 := o2.mono s3
            cases hb : flatT t xs[i] with
            | none =>
              have : bd xs[i] e1 = .bad := by simp only [bd, bindE, hb, Option.map_none]
              rw [this] at q2
              exact q2.elim
            | some fl =>
              refine ⟨_, xs[i], fl, hb, pd, fun as has => ⟨(F', setE e1 fl), setE_ok fl as o3 has, ?_⟩⟩
              have hbd : bd xs[i] e1 = exec T b (setE e1 fl) := by simp only [bd, bindE, hb, Option.map_some]
              cases eb : exec T b (setE e1 fl) with
              | nx e' => exact fun σ' H' z => ⟨e', by rw [hbd, eb], z⟩
              | rt d fr => rw [hbd, eb] at q2; exact q2
              | ex k => rw [hbd, eb] at q2; exact q2
              | bad => rw [hbd, eb] at q2; exact q2
        · have hi' : i = xs.length := by omega
          subst hi'
          refine .inl ⟨w2, ?_⟩
          rw [List.drop_length] at q2
          exact q2 _ _ (o2.weak o1.keep)
  · cases h) (fun _ _ => rfl)
theorem snds_tryE {b : CS.S} {ie il : Nat} {cs : List (List Nat)} (ib : SndS T cls b) : SndS T cls (.tryE b ie il cs) := snds_stmt (fun {S X W} U0 H0 F env {st} g h => ps_tryE g (fun g' h' => ib.pss U0 H0 F env g' h') h) (fun _ _ => rfl)
/-- THE SOUNDNESS of statements -/
theorem sndS (s : CS.S) : SndS T cls s := by
  induction s with
  | done => exact snds_done
  | seq s r is ir => exact snds_seq is ir
  | asg t e fz vis own => exact snds_stmt (fun {S X W} U0 H0 F env {st} g h => ps_asgS g h) (fun _ _ => rfl)
  | par ts es fz => exact snds_stmt (fun {S X W} U0 H0 F env {st} g h => ps_parS g h) (fun _ _ => rfl)
  | setix x i e => exact snds_stmt (fun {S X W} U0 H0 F env {st} g h => ps_setix g h) (fun _ _ => rfl)
  | augix x i e => exact snds_stmt (fun {S X W} U0 H0 F env {st} g h => ps_augix g h) (fun _ _ => rfl)
  | app x e => exact snds_stmt (fun {S X W} U0 H0 F env {st} g h => ps_appS g h) (fun _ _ => rfl)
  | ext x e => exact snds_stmt (fun {S X W} U0 H0 F env {st} g h => ps_extS g h) (fun _ _ => rfl)
  | drop e => exact snds_stmt (fun {S X W} U0 H0 F env {st} g h => ps_dropS g h) (fun _ _ => rfl)
  | ret e => exact snds_stmt (fun {S X W} U0 H0 F env {st} g h => ps_retS g h) (fun _ _ => rfl)
  | retO x => exact snds_stmt (fun {S X W} U0 H0 F env {st} g h => ps_retOS g h) (fun _ _ => rfl)
  | retN => exact snds_stmt (fun {S X W} U0 H0 F env {st} g h => ps_retNS h) (fun _ _ => rfl)
  | iff c a b ia ib => exact snds_iff ia ib
  | forr t it fz b ib => exact snds_forr ib
  | whil c b ib => exact snds_whil ib
  | rais k m => exact snds_stmt (fun {S X W} U0 H0 F env {st} g h => ps_raisS g h) (fun _ _ => rfl)
  | tryE b ie il cs ib => exact snds_tryE ib
end

/-! ### a def -/
/-- what the module gives to a def's body: the built-ins stand, the constants, the defs (below level k), the error classes -/
structure Md (T : Tb) (cls : Nat → Option Addr) (P : Program) (w : World) (K : PySem.W.Frag) (mg : Str → Option Value) (base : Heap) (k : Nat) : Prop where
  blt : ∀ x ∈ bltNames, mg x = none
  con : ∀ p ∈ T.cons, ∃ u v, mg p.1 = some u ∧ RelV v u ∧ ∀ F, Rp K F p.2 v
  fns : ∀ f ∈ T.fns, ∃ (j : Nat) (a : Addr) (fd : FuncData), j ≤ k ∧ mg f.name = some (.ref a) ∧ PySem.W.keepIn K (.ref a) = true ∧ Binds K fd f.ps [] ∧ FnOk P w K mg base (L2.CX P w) j a fd f.ps (spOf K cls f)
  exs : ∀ (i : Nat) (x : Str), T.exs[i]? = some x → ∃ C, cls i = some C ∧ XOk K mg x C
  exq : XAll T cls K
section
variable {T : Tb} {cls : Nat → Option Addr} {P : Program} {w : World} {K : PySem.W.Frag} {mg : Str → Option Value} {base : Heap} {k : Nat}
theorem start_len {N : List Str} {vs : List V} (h : vs.length ≤ N.length) : (L2.start N vs).length = N.length := by
  unfold L2.start
  simp
  omega
theorem def_ok {x qual : Str} {st : Stmt} {f : Addr} {fd : FuncData} {N ps : List Str} {body : CS.S} {fresh : Bool} (M : Md T cls P w K mg base k) (Fu : L2.Fun K x qual st f fd) (Sc : FnScope N ps (defScope st))
    (hc : chkSs T ⟨N, defScope st, fun _ => true⟩ body (defBody st) = true) : FnOk P w K mg base (L2.CX P w) (k + 1) f fd ps (spOf K cls ⟨x, ps, runDef T N.length body fresh, fresh⟩) := by
  refine Fun.okX Fu Sc (fun vs H Q E h => h.1) fun cdv A outer s H vs Q E hr hsp => ?_
  obtain ⟨hl, U, ds, l, p, q⟩ := hsp
  have hlen := p.length
  have hN : ps.length ≤ N.length := by
    have := congrArg List.length Sc.pre
    rw [List.length_take] at this
    omega
  have hvN : vs.length ≤ N.length := by
    have : vs.length = ps.length := hl
    omega
  let W : WX := fun cls d _ H => E cls d H
  have g : GdS T cls ⟨N, defScope st, fun _ => true⟩ (cxOf (L2.CX P w) P w K mg base N qual (defScope st) f cdv A outer s H E) W := {
    calm := rfl
    nd := Sc.nd
    hN := rfl
    sc := rfl
    fn := fun _ _ => rfl
    un := by
      have h2 := hr.un
      show (A.deeper (envOfC qual (defScope st) s.heap.objs.size f cdv)).units + 65 < cLine
      omega
    tk := takes_of rfl rfl rfl rfl
    blt := M.blt
    con := M.con
    fns := fun f hf => by
      obtain ⟨j, a, fd, hj, r⟩ := M.fns f hf
      exact ⟨j, a, fd, hr.mono hj, r⟩
    pass := passes_of rfl
    kind := Sc.kind
    exs := M.exs
    exq := M.exq
    stk := rfl
    frm := rfl }
  let env : Env := ds.map (fun d => some (d, false)) ++ List.replicate (N.length - ds.length) none
  have henv : ∀ (i : Nat) (d : D) (b : Bool), env[i]? = some (some (d, b)) → b = false ∧ ds[i]? = some d := fun i d b e => by
    by_cases hi : i < ds.length
    · have e2 : env[i]? = (ds.map (fun d => some (d, false)))[i]? := List.getElem?_append_left (by simpa using hi)
      rw [e2, List.getElem?_map] at e
      cases e3 : ds[i]? with
      | none => rw [e3] at e; cases e
      | some d' =>
        rw [e3] at e
        simp at e
        exact ⟨e.2, by rw [e.1]⟩
    · have e2 : env[i]? = (List.replicate (N.length - ds.length) none)[i - (ds.map (fun d => some (d, false))).length]? := List.getElem?_append_right (by simpa using hi)
      rw [e2, List.getElem?_replicate] at e
      split at e <;> cases e
  have noown : ∀ b, ¬ OwnA env (L2.start N vs) b := fun b ⟨i, d, e1, _⟩ => nomatch (henv i d true e1).1
  have hau : ∀ b, AU U env (L2.start N vs) b → U b := fun b h => h.elim id fun z => (noown b z).elim
  have o : SOk K U H (hide H U) (L2.start N vs) H env := by
    refine ⟨?_, Same.refl _, l, fun i d e => ?_, fun i d e => ?_, fun i j d d' a e => ?_, hide_anti hau⟩
    · rw [start_len hvN]
      simp [env]
      omega
    · obtain ⟨v, e1, e2⟩ := p.get (henv i d false e).2
      refine ⟨v, ?_, e2.mono (hide_anti hau)⟩
      unfold L2.start
      rw [List.getElem?_append_left (by simpa using (List.getElem?_eq_some_iff.mp e1).1), List.getElem?_map, e1]
      rfl
    · exact nomatch (henv i d true e).1
    · exact nomatch (henv i d true e).1
  refine ⟨_, (sndS body).pss U H (hide H U) env g hc, o, ?_⟩
  have hrun : runDef T N.length body fresh ds = (match exec T body env with
    | .rt d fr => if fresh then (match d, fr with | .lst _, true => .val d | .lst _, false => .bad | _, _ => .val d) else .val d
    | .nx _ => .val .non
    | .ex k => .exc k
    | .bad => .bad) := rfl
  rw [show (Fn.sem ⟨x, ps, runDef T N.length body fresh, fresh⟩ ds) = runDef T N.length body fresh ds from rfl, hrun] at q
  cases ee : exec T body env with
  | nx e' =>
    rw [ee] at q
    exact fun σ' H' o' => q .non H' o'.same (rp_non.mpr rfl) fun _ xs z => nomatch z
  | bad => rw [ee] at q; exact q
  | ex i =>
    rw [ee] at q
    obtain ⟨C, z1, z2⟩ := q
    exact ⟨C, z1, fun σ' H' s => z2 H' s⟩
  | rt d fr =>
    rw [ee] at q
    intro v H' s pv hf
    cases hfr : fresh with
    | false =>
      rw [hfr] at q
      exact q v H' s pv fun z => nomatch z
    | true =>
      rw [hfr] at q
      simp only [if_true] at q
      cases d with
      | lst xs =>
        cases fr with
        | true => exact q v H' s pv fun _ ys z => hf rfl ys z
        | false => exact q.elim
      | _ => exact q v H' s pv fun _ ys z => nomatch z
end
end CS

/-! the head: what the module's top leaves -/
namespace CS
open PySem L2 PySem.Spec PyProof.Rows

def dd (x : Str) (st : Stmt) : He.DefD := ⟨(x, none), x, x, defArgs st, defBody st, defScope st, [], []⟩
def bltFa : List He.Fa := bltNames.map He.Fa.free
def conFa (l : List (Str × D)) : List He.Fa := l.map fun p => match p.2 with | .int i => He.Fa.int p.1 i | .str s => He.Fa.str p.1 s | _ => He.Fa.free p.1
def excFa (l : List Str) : List He.Fa := l.map He.Fa.exc ++ l.map He.Fa.glo
def gloFa (l : List Str) : List He.Fa := l.map He.Fa.glo
def excB (K : PySem.W.Frag) (C : Addr) : Bool :=
  He.eqO (PySem.W.findIn K (.ref C) "__getattribute__") (some (some (.builtin "BaseException.__getattribute__"))) && He.eqO (PySem.W.findIn K (.ref C) "__getattr__") (some none) &&
  decide (PySem.W.subIn K (.ref C) (.type "BaseException") = some true) && PySem.W.hasDictIn K C && He.eqO (PySem.W.findIn K (.ref C) "__class__") (some (some (.builtin "object.__class__"))) &&
  He.eqO (PySem.W.specialIn K (.builtin "object.__class__") "__get__") (some (some (.builtin "getset_descriptor.__get__"))) && decide (PySem.W.takesIn K (.builtin "object.__class__") = some true) && decide (PySem.W.mroIn K C (.type "object") = some true)
theorem excB_ok {K : PySem.W.Frag} {C : Addr} (h : excB K C = true) : ExcC K C := by
  unfold excB at h
  simp only [Bool.and_eq_true, decide_eq_true_eq] at h
  obtain ⟨⟨⟨⟨⟨⟨⟨h1, h2⟩, h3⟩, h4⟩, h5⟩, h6⟩, h7⟩, h8⟩ := h
  exact ⟨He.eqO_ok h1, He.eqO_ok h2, h3, h4, He.eqO_ok h5, He.eqO_ok h6, h7, h8⟩
/-- what the classes say of each other -/
def exFx (l : List Str) (K : PySem.W.Frag) : Bool := match l with
  | [] => true
  | b :: r => r.all fun x => excB K (He.ga K x) && decide (PySem.W.exmOne K (.ref (He.ga K x)) (.ref (He.ga K b)) = some true) && r.all fun y => decide (PySem.W.kitOne K (.ref (He.ga K x)) (.ref (He.ga K y)) = some (decide (y = x)))
def obsCG (n : Nat) (fa : List He.Fa) (fx : PySem.W.Frag → Bool) (fn : List He.DefD) (g : Addr → Option Obj) : He.AlD × Bool := (fun K => (He.obsD fa fn K, fx K)) (He.frG g (He.asD g n))
def hookC (n : Nat) (fa : List He.Fa) (fx : PySem.W.Frag → Bool) (fn : List He.DefD) : PySem.W.Hook where
  α := He.AlD × Bool
  obs := fun s => obsCG n fa fx fn s.heap.get?
  val := fun _ => (He.valD fn, true)
  says := fun _ h => ∃ K : PySem.W.Frag, K.In h ∧ He.SaysD fa fn K ∧ fx K = true
  of := fun _ _ e => ⟨_, He.frG_in, congrArg Prod.fst e, congrArg Prod.snd e⟩
  keeps := fun _ _ _ ⟨K, hK, c⟩ k => ⟨K, PySem.W.Frag.In.keeps hK k, c⟩
theorem obsCG_eq {n : Nat} {fa : List He.Fa} {fx : PySem.W.Frag → Bool} {fn : List He.DefD} {g : Addr → Option Obj} {s : Shared} (h : ∀ a, g a = s.heap.get? a) : obsCG n fa fx fn g = (hookC n fa fx fn).obs s := by
  have e : g = s.heap.get? := funext h
  rw [e] <;> rfl

def clsOf (exs : List Str) (K : PySem.W.Frag) : Nat → Option Addr := fun i => exs[i]?.map (He.ga K)
/-- what the module gives -/
structure Cm (fn : List He.DefD) (cons : List (Str × D)) (exs gs : List Str) (K : PySem.W.Frag) (mg : Str → Option Value) : Prop where
  says : He.SaysD (bltFa ++ conFa cons ++ excFa exs ++ gloFa gs) fn K
  blt : ∀ x ∈ bltNames, mg x = none
  con : ∀ p ∈ cons, ∃ u v, mg p.1 = some u ∧ RelV v u ∧ ∀ F, Rp K F p.2 v
  exk : ∀ (i : Nat) (x : Str), exs[i]? = some x → ∃ C, clsOf exs K i = some C ∧ XOk K mg x C
  exq : ∀ T : Tb, T.exs = exs → XAll T (clsOf exs K) K
  glo : ∀ x ∈ gs, mg x = some (.ref (He.ga K x))
/-- the constants are plain -/
def plainC (l : List (Str × D)) : Bool := l.all fun p => match p.2 with | .int _ => true | .str _ => true | _ => false
theorem cm_mk {fn : List He.DefD} {cons : List (Str × D)} {exs gs : List Str} {K : PySem.W.Frag} {h : Heap} {mg : Str → Option Value} (X : K.In h) (G : h.Ns mainGlobals mg)
    (hp : plainC cons = true) (hd : exs.Nodup) (c : He.SaysD (bltFa ++ conFa cons ++ excFa exs ++ gloFa gs) fn K) (cx : exFx exs K = true) : Cm fn cons exs gs K mg := by
  have fact : ∀ f ∈ bltFa ++ conFa cons ++ excFa exs ++ gloFa gs, f.ok K = true := fun f hf => by
    have c1 := (He.ba (show ((_ : List He.Fa).all _ && _) = true from congrArg (fun z : He.AlD => z.1) c)).1
    exact List.all_eq_true.mp c1 f hf
  have glo : ∀ x, He.Fa.glo x ∈ bltFa ++ conFa cons ++ excFa exs ++ gloFa gs → mg x = some (.ref (He.ga K x)) := fun x hx => He.glo_ok X G (fact _ hx)
  have exg : ∀ (i : Nat) (x : Str), exs[i]? = some x → He.Fa.glo x ∈ bltFa ++ conFa cons ++ excFa exs ++ gloFa gs ∧ He.Fa.exc x ∈ bltFa ++ conFa cons ++ excFa exs ++ gloFa gs := fun i x e => by
    have hm := List.mem_of_getElem? e
    refine ⟨?_, ?_⟩
    · simp only [List.mem_append, excFa]
      exact .inl (.inr (.inr (List.mem_map_of_mem hm)))
    · simp only [List.mem_append, excFa]
      exact .inl (.inr (.inl (List.mem_map_of_mem hm)))
  refine ⟨c, fun x hx => He.free_ok X G (fact _ ?_), fun p hp' => ?_, fun i x e => ?_, fun T hT => ?_, fun x hx => glo x ?_⟩
  · simp only [List.mem_append]
    exact .inl (.inl (.inl (List.mem_map_of_mem hx)))
  · have hm : (match p.2 with | .int i => He.Fa.int p.1 i | .str s => He.Fa.str p.1 s | _ => He.Fa.free p.1) ∈ bltFa ++ conFa cons ++ excFa exs ++ gloFa gs := by
      simp only [List.mem_append]
      exact .inl (.inl (.inr (List.mem_map_of_mem (f := fun p : Str × D => match p.2 with | .int i => He.Fa.int p.1 i | .str s => He.Fa.str p.1 s | _ => He.Fa.free p.1) hp')))
    have hpl := List.all_eq_true.mp hp p hp'
    obtain ⟨x, d⟩ := p
    cases d with
    | int i =>
      obtain ⟨t, e⟩ := He.int_ok X G (fact _ hm)
      exact ⟨_, .int i, e, ⟨t, rfl⟩, fun F => rp_int.mpr rfl⟩
    | str i =>
      obtain ⟨t, e⟩ := He.str_ok X G (fact _ hm)
      exact ⟨_, .str i, e, ⟨t, rfl⟩, fun F => rp_str.mpr rfl⟩
    | _ => cases hpl
  · obtain ⟨m1, m2⟩ := exg i x e
    obtain ⟨c1, c2, c3, c4⟩ := He.exc_ok (fact _ m2)
    refine ⟨He.ga K x, ?_, ⟨⟨_, _, _, _, PySem.F.excBase_ValueError, c1⟩, glo x m1, c2, c3, c4⟩⟩
    unfold clsOf
    rw [e]
    rfl
  · intro i x C e1 e2 e3
    rw [hT] at e1
    unfold clsOf at e2
    rw [e1] at e2
    cases e2
    cases exs with
    | nil => simp at e1
    | cons b r =>
      cases i with
      | zero => exact absurd rfl e3
      | succ i =>
        have e1' : r[i]? = some x := e1
        have hx := List.all_eq_true.mp (show (r.all fun x => excB K (He.ga K x) && decide (PySem.W.exmOne K (.ref (He.ga K x)) (.ref (He.ga K b)) = some true) && r.all fun y => decide (PySem.W.kitOne K (.ref (He.ga K x)) (.ref (He.ga K y)) = some (decide (y = x)))) = true from cx) x (List.mem_of_getElem? e1')
        simp only [Bool.and_eq_true, decide_eq_true_eq] at hx
        obtain ⟨⟨x1, x2⟩, x3⟩ := hx
        refine ⟨excB_ok x1, fun C0 h0 => ?_, fun j y C' f1 f2 f3 => ?_⟩
        · have : C0 = He.ga K b := (Option.some.inj h0).symm
          subst this
          exact x2
        · rw [hT] at f1
          unfold clsOf at f2
          rw [f1] at f2
          cases f2
          cases j with
          | zero => exact absurd rfl f3
          | succ j =>
            have f1' : r[j]? = some y := f1
            have hy := of_decide_eq_true (List.all_eq_true.mp x3 y (List.mem_of_getElem? f1'))
            show PySem.W.kitOne K (.ref (He.ga K x)) (.ref (He.ga K y)) = some (j + 1 == i + 1)
            rw [hy]
            congr 1
            have hnd : r.Nodup := (List.nodup_cons.mp hd).2
            by_cases hij : j = i
            · subst hij
              rw [e1'] at f1'
              cases f1'
              simp
            · have hne : y ≠ x := fun z => by
                subst z
                obtain ⟨l1, g1⟩ := List.getElem?_eq_some_iff.mp e1'
                obtain ⟨l2, g2⟩ := List.getElem?_eq_some_iff.mp f1'
                exact hij ((List.getElem_inj hnd).mp (g2.trans g1.symm))
              simp [hne, hij]
  · simp only [List.mem_append, gloFa]
    exact .inr (List.mem_map_of_mem hx)

/-- a def that keeps its promise -/
def Kn (K : PySem.W.Frag) (P : Program) (w : World) (mg : Str → Option Value) (exs : List Str) (f : Fn) (k : Nat) : Prop :=
  ∃ (a : Addr) (fd : FuncData), mg f.name = some (.ref a) ∧ PySem.W.keepIn K (.ref a) = true ∧ (∀ (s : Shared) (us : List Value), us.length = f.ps.length → BindsTo s fd ⟨us, []⟩ (f.ps.zip us)) ∧ ∀ base : Heap, FnOk P w K mg base (L2.CX P w) k a fd f.ps (spOf K (clsOf exs K) f)
section
variable {P : Program} {w : World} {K : PySem.W.Frag} {mg : Str → Option Value} {exs : List Str} {k : Nat}
theorem all_nil : ∀ f ∈ ([] : List Fn), ∃ j, j ≤ k ∧ Kn K P w mg exs f j := fun _ h => nomatch h
theorem all_cons {f : Fn} {fs : List Fn} (h : ∃ j, j ≤ k ∧ Kn K P w mg exs f j) (hs : ∀ f ∈ fs, ∃ j, j ≤ k ∧ Kn K P w mg exs f j) : ∀ g ∈ f :: fs, ∃ j, j ≤ k ∧ Kn K P w mg exs g j := fun g hg => by
  rcases List.mem_cons.mp hg with rfl | hg
  · exact h
  · exact hs g hg
def scB (N ps : List Str) (sc : Scope) : Bool := (match sc.kind with | .function => true | _ => false) && !sc.isCoroutine && !sc.isGenerator && decide N.Nodup && decide (N.take ps.length = ps) &&
  ps.all (fun x => decide (sc.names.lookup x = some .local ∨ sc.names.lookup x = some .cell)) && sc.names.all fun y => decide (y.2 ≠ .free)
theorem scOk {N ps : List Str} {sc : Scope} (h : scB N ps sc = true) : FnScope N ps sc := by
  unfold scB at h
  simp only [Bool.and_eq_true, decide_eq_true_eq, Bool.not_eq_true', List.all_eq_true] at h
  obtain ⟨⟨⟨⟨⟨⟨h1, h2⟩, h3⟩, h4⟩, h5⟩, h6⟩, h7⟩ := h
  refine ⟨?_, h2, h3, h4, h5, h6, h7⟩
  split at h1
  · assumption
  · cases h1
theorem kn_mk {gs : List Str} {fn : List He.DefD} {cons : List (Str × D)} {T : Tb} {x : Str} {st : Stmt} {N ps : List Str} {body : CS.S} {fresh : Bool} (C : Cm fn cons exs gs K mg) (i : Nat)
    (hd : fn[i]? = some (dd x st)) (hT : T.exs = exs) (hf : ∀ f ∈ T.fns, ∃ j, j ≤ k ∧ Kn K P w mg exs f j) (hcv : T.cons = cons) (hg : x ∈ gs) (Sc : FnScope N ps (defScope st))
    (hc : chkSs T ⟨N, defScope st, fun _ => true⟩ body (defBody st) = true)
    (hb : ∀ (kV doc pm : Value) (an : Option Addr) (cdv ct : Value) (us : List Value), us.length = ps.length → bindArgs (PySem.W.fnOf x x (defArgs st) (defBody st) (defScope st) .none kV doc pm an cdv ct) ⟨us, []⟩ = pure (ps.zip us)) :
    Kn K P w mg exs ⟨x, ps, runDef T N.length body fresh, fresh⟩ (k + 1) := by
  obtain ⟨fd, Fd⟩ := C.says.def_ i hd
  have Fu : L2.Fun K x x st (He.fAd K (x, none)) fd := by
    obtain ⟨oc, od, dV, kV, doc, pm, an, cdv, ct, osl, h1, h2, h3, h4, h5⟩ := Fd.ex
    rcases h4 with ⟨_, rfl⟩ | ⟨z, _⟩
    · exact ⟨⟨oc, od, kV, doc, pm, an, cdv, ct, osl, h1, h2, h3⟩, Fd.kp⟩
    · exact absurd rfl z
  have hbs : ∀ (s : Shared) (us : List Value), us.length = ps.length → BindsTo s fd ⟨us, []⟩ (ps.zip us) := by
    obtain ⟨oc, od, kV, doc, pm, an, cdv, ct, osl, rfl, lk, hcd⟩ := Fu.ex
    exact fun s us hl => .of_eq (hb kV doc pm an cdv ct us hl)
  refine ⟨He.fAd K (x, none), fd, C.glo x hg, Fu.kp, hbs, fun base => ?_⟩
  refine def_ok (T := T) ⟨C.blt, fun p hp => C.con p (hcv ▸ hp), fun f hf' => ?_, fun i y e => C.exk i y (hT ▸ e), C.exq T hT⟩ Fu Sc hc
  obtain ⟨j, hj, a, fd', h1, h2, h3, h4⟩ := hf f hf'
  exact ⟨j, a, fd', hj, h1, h2, fun s us _ hl => by rw [List.append_nil] at hl ⊢; exact h3 s us hl, h4 base⟩
/-- a def of which nothing is promised: the bottom of a recursion -/
theorem kn_bad {gs : List Str} {fn : List He.DefD} {cons : List (Str × D)} {x : Str} {st : Stmt} {ps : List Str} {fresh : Bool} (C : Cm fn cons exs gs K mg) (i : Nat)
    (hd : fn[i]? = some (dd x st)) (hg : x ∈ gs)
    (hb : ∀ (kV doc pm : Value) (an : Option Addr) (cdv ct : Value) (us : List Value), us.length = ps.length → bindArgs (PySem.W.fnOf x x (defArgs st) (defBody st) (defScope st) .none kV doc pm an cdv ct) ⟨us, []⟩ = pure (ps.zip us)) :
    Kn K P w mg exs ⟨x, ps, fun _ => .bad, fresh⟩ k := by
  obtain ⟨fd, Fd⟩ := C.says.def_ i hd
  have Fu : L2.Fun K x x st (He.fAd K (x, none)) fd := by
    obtain ⟨oc, od, dV, kV, doc, pm, an, cdv, ct, osl, h1, h2, h3, h4, h5⟩ := Fd.ex
    rcases h4 with ⟨_, rfl⟩ | ⟨z, _⟩
    · exact ⟨⟨oc, od, kV, doc, pm, an, cdv, ct, osl, h1, h2, h3⟩, Fd.kp⟩
    · exact absurd rfl z
  have hbs : ∀ (s : Shared) (us : List Value), us.length = ps.length → BindsTo s fd ⟨us, []⟩ (ps.zip us) := by
    obtain ⟨oc, od, kV, doc, pm, an, cdv, ct, osl, rfl, lk, hcd⟩ := Fu.ex
    exact fun s us hl => .of_eq (hb kV doc pm an cdv ct us hl)
  refine ⟨He.fAd K (x, none), fd, C.glo x hg, Fu.kp, hbs, fun base => ⟨fun vs H Q E h => h.1, fun A outer s H args us vs Q E hr he hb hv h => ?_⟩⟩
  obtain ⟨_, U, ds, _, _, z⟩ := h
  exact z.elim
end
end CS
namespace CS
open PySem L2 PySem.Spec PyProof.Rows
theorem walk_end {l : PySem.W.OpenLaw} {n k : Nat} {q : Program} {loose : List Str} {XP : (Str → Option Value) → Heap → Prop} {YP : World → Heap → Prop} {d : DefRec} {exs : List Str} {f : Fn}
    (hn : l.most = some n) (hn2 : n ≤ sizeLine) (hdf : d.params.defaults = []) (hr : Room k callerA) (hps : f.ps = [Str.ofString "script"]) (hnm : f.name = d.name)
    (F : ∀ (w : World) (mg : Str → Option Value) (fa : Addr) (h : Heap), YP w h → h.Ns mainGlobals mg → mg d.name = some (.ref fa) →
      ∃ (K : PySem.W.Frag), K.In h ∧ Kn K l.prog w mg exs f k)
    (hsem : ∀ ns : List Int, ns.length ≤ n → f.sem [.scr ns] = .val (.bl true)) :
    PySem.W.WalkO q loose XP YP l.row.toRowW d [] (fun f vs => PySem.call f vs) := by
  refine Att.attach_call hn hdf fun w s₀ s₁ mg mb fa o pm cd doc a vs ns G Y ho hd hcd hmg hobj hints hlen hg => ?_
  obtain ⟨K, KX, a0, fd, h1, h2, h3, h4⟩ := F w mg fa _ Y G.T.g hmg
  have e0 : a0 = fa := by
    rw [hnm, hmg] at h1
    cases h1
    rfl
  subst e0
  have hb : ∀ (s : Shared) (u : Value), BindsTo s fd ⟨[u], []⟩ [(Str.ofString "script", u)] := fun s u => by
    have := h3 s [u] (by rw [hps]; rfl)
    rw [hps] at this
    exact this
  have hF : ∀ base : Heap, K.In base → base.Ns mainGlobals mg → FnOk l.prog w K mg base (L2.CX l.prog w) k a0 fd [Str.ofString "script"] (spOf K (clsOf exs K) f) := fun base _ _ => by
    have := h4 base
    rw [hps] at this
    exact this
  refine law_call KX G.T.g G.T.b G.T.builtins G.T.nolimit hg hobj hints (Nat.le_trans hlen hn2) hr hF hb (fun H hO hS => ?_) fun H e s' h => ?_
  · have hS' : Scr K (hide H fun _ => False) a ns := by
      have hz : hide H (fun _ => False) = H := by
        funext b
        exact hide_out (fun z => z)
      rw [hz]
      rcases hS with hS | hS
      · rcases hS with hS | hS
        · rcases hO a with z | ⟨o, xs, z⟩
          · rw [hS] at z; cases z
          · rw [hS] at z; cases z
        · exact .inl hS
      · exact .inr hS
    refine ⟨by rw [hps]; rfl, fun _ => False, [.scr ns], fun b hb => hb.elim, .cons ?_ .nil, ?_⟩
    · simp only [Rp]
      exact ⟨a, rfl, hS'⟩
    · rw [hsem ns hlen]
      exact fun v H' s p _ => rp_bl.mp p
  · obtain ⟨a', B, H', cls, d', _, _, _, _, _, _, _, z⟩ := h
    exact z
end CS

/-! the plain side: the evaluator's equations in a shape that is good to compute with -/
namespace CS
def ifB {α : Type} (x : D) (a b : Res α) : Res α := match x with
  | .bl true => a
  | .bl false => b
  | _ => .bad
@[simp] theorem ifB_bl {α : Type} (b : Bool) (x y : Res α) : ifB (.bl b) x y = if b then x else y := by cases b <;> rfl
@[simp] theorem bind_val {α β : Type} (a : α) (f : α → Res β) : (Res.val a).bind f = f a := (rfl)
@[simp] theorem bind_exc {α β : Type} (k : Nat) (f : α → Res β) : (Res.exc k : Res α).bind f = .exc k := (rfl)
@[simp] theorem bind_bad {α β : Type} (f : α → Res β) : (Res.bad : Res α).bind f = .bad := (rfl)
theorem bind_ite {α β : Type} (c : Prop) [Decidable c] (a b : Res α) (f : α → Res β) : (if c then a else b).bind f = if c then a.bind f else b.bind f := by split <;> rfl
@[simp] theorem out_val (d : D) (f : D → Out) : (Res.val d).out f = f d := (rfl)
@[simp] theorem out_exc (k : Nat) (f : D → Out) : (Res.exc k).out f = .ex k := (rfl)
@[simp] theorem out_bad (f : D → Out) : (Res.bad).out f = .bad := (rfl)
theorem out_ite (c : Prop) [Decidable c] (a b : Res D) (f : D → Out) : (if c then a else b).out f = if c then a.out f else b.out f := by split <;> rfl
def Out.then (o : Out) (f : Env → Out) : Out := match o with
  | .nx e => f e
  | o => o
@[simp] theorem then_nx (e : Env) (f : Env → Out) : (Out.nx e).then f = f e := (rfl)
@[simp] theorem then_rt (d : D) (b : Bool) (f : Env → Out) : (Out.rt d b).then f = .rt d b := (rfl)
@[simp] theorem then_ex (k : Nat) (f : Env → Out) : (Out.ex k).then f = .ex k := (rfl)
@[simp] theorem then_bad (f : Env → Out) : Out.bad.then f = .bad := (rfl)
theorem then_ite (c : Prop) [Decidable c] (a b : Out) (f : Env → Out) : (if c then a else b).then f = if c then a.then f else b.then f := by split <;> rfl
def Out.fin (fresh : Bool) (o : Out) : Res D := match o with
  | .rt d fr => if fresh then (match d, fr with | .lst _, true => .val d | .lst _, false => .bad | _, _ => .val d) else .val d
  | .nx _ => .val .non
  | .ex k => .exc k
  | .bad => .bad
@[simp] theorem fin_rt (d : D) (b : Bool) : (Out.rt d b).fin false = .val d := (rfl)
@[simp] theorem fin_rtL (xs : List D) : (Out.rt (.lst xs) true).fin true = .val (.lst xs) := (rfl)
@[simp] theorem fin_rtT (xs : List D) (b : Bool) : (Out.rt (.tup xs) b).fin true = .val (.tup xs) := by cases b <;> rfl
@[simp] theorem fin_rtB (x b : Bool) : (Out.rt (.bl x) b).fin true = .val (.bl x) := by cases b <;> rfl
@[simp] theorem fin_rtN (b : Bool) : (Out.rt .non b).fin true = .val .non := by cases b <;> rfl
@[simp] theorem fin_nx (e : Env) (f : Bool) : (Out.nx e).fin f = .val .non := (rfl)
@[simp] theorem fin_ex (k : Nat) (f : Bool) : (Out.ex k).fin f = .exc k := (rfl)
theorem fin_ite (c : Prop) [Decidable c] (a b : Out) (f : Bool) : (if c then a else b).fin f = if c then a.fin f else b.fin f := by split <;> rfl
@[simp] theorem runDef_eq (T : Tb) (n : Nat) (body : S) (fresh : Bool) (ds : List D) : runDef T n body fresh ds = (exec T body (ds.map (fun d => some (d, false)) ++ List.replicate (n - ds.length) none)).fin fresh := (rfl)
section
variable {T : Tb} {r : Rho} {e : Env}
@[simp] theorem evq_non : ev T .non r = .val .non := (rfl)
@[simp] theorem evq_bl (b : Bool) : ev T (.bl b) r = .val (.bl b) := (rfl)
@[simp] theorem evq_int (b : Int) : ev T (.int b) r = .val (.int b) := (rfl)
@[simp] theorem evq_str (b : PySem.Str) : ev T (.str b) r = .val (.str b) := (rfl)
def varR (o : Option (Option D)) : Res D := match o with
  | some (some d) => .val d
  | _ => .bad
@[simp] theorem varR_some (d : D) : varR (some (some d)) = .val d := (rfl)
@[simp] theorem evq_var (i : Nat) : ev T (.var i) r = varR r[i]? := by
  show (match r[i]? with | some (some d) => Res.val d | _ => .bad) = _
  unfold varR; rfl
def conR (o : Option (PySem.Str × D)) : Res D := match o with
  | some p => .val p.2
  | none => .bad
@[simp] theorem conR_some (p : PySem.Str × D) : conR (some p) = .val p.2 := (rfl)
@[simp] theorem evq_gc (i : Nat) : ev T (.gc i) r = conR T.cons[i]? := by
  show (match T.cons[i]? with | some p => Res.val p.2 | none => .bad) = _
  unfold conR; rfl
@[simp] theorem evq_anil : ev T .anil r = .val (.lst []) := (rfl)
@[simp] theorem argsD_lst (xs : List D) : argsD (.lst xs) = .val xs := (rfl)
@[simp] theorem evq_acons (a es : E) : ev T (.acons a es) r = (ev T a r).bind fun x => (ev T es r).bind fun y => (argsD y).bind fun ys => .val (.lst (x :: ys)) := (rfl)
@[simp] theorem evq_tup (es : E) : ev T (.tup es) r = (ev T es r).bind fun y => (argsD y).bind fun ys => if big ys.length then .val (.tup ys) else .bad := (rfl)
@[simp] theorem evq_lst (es : E) : ev T (.lst es) r = (ev T es r).bind fun y => (argsD y).bind fun ys => if big ys.length then .val (.lst ys) else .bad := (rfl)
@[simp] theorem evq_bin (o : PySem.Operator) (a b : E) : ev T (.bin o a b) r = (ev T a r).bind fun x => (ev T b r).bind fun y => binD o x y := (rfl)
@[simp] theorem evq_neg (a : E) : ev T (.neg a) r = (ev T a r).bind negD := (rfl)
@[simp] theorem evq_not (a : E) : ev T (.not a) r = (ev T a r).bind fun x => ifB x (.val (.bl false)) (.val (.bl true)) := by
  show (ev T a r).bind _ = (ev T a r).bind _
  congr 1; funext x; cases x <;> first | rfl | (rename_i b; cases b <;> rfl)
@[simp] theorem evq_and (a b : E) : ev T (.and a b) r = (ev T a r).bind fun x => ifB x (ev T b r) (.val (.bl false)) := by
  show (ev T a r).bind _ = (ev T a r).bind _
  first | rfl | (congr 1; funext x; cases x <;> first | rfl | (rename_i b; cases b <;> rfl))
@[simp] theorem evq_or (a b : E) : ev T (.or a b) r = (ev T a r).bind fun x => ifB x (.val (.bl true)) (ev T b r) := by
  show (ev T a r).bind _ = (ev T a r).bind _
  first | rfl | (congr 1; funext x; cases x <;> first | rfl | (rename_i b; cases b <;> rfl))
@[simp] theorem evq_cmp (o : PySem.CmpOp) (a b : E) : ev T (.cmp o a b) r = (ev T a r).bind fun x => (ev T b r).bind fun y => cmpD o x y := (rfl)
@[simp] theorem evq_chain (o o' : PySem.CmpOp) (a b c : E) : ev T (.chain o o' a b c) r = (ev T a r).bind fun x => (ev T b r).bind fun y => (cmpD o x y).bind fun z => ifB z ((ev T c r).bind fun u => cmpD o' y u) (.val (.bl false)) := by
  show (ev T a r).bind _ = (ev T a r).bind _
  first | rfl | (congr 1; funext x; congr 1; funext y; congr 1; funext z; cases z <;> first | rfl | (rename_i b; cases b <;> rfl))
@[simp] theorem evq_ife (c a b : E) : ev T (.ife c a b) r = (ev T c r).bind fun x => ifB x (ev T a r) (ev T b r) := by
  show (ev T c r).bind _ = (ev T c r).bind _
  first | rfl | (congr 1; funext x; cases x <;> first | rfl | (rename_i b; cases b <;> rfl))
@[simp] theorem evq_ix (a i : E) : ev T (.ix a i) r = (ev T a r).bind fun x => (ev T i r).bind fun y => ixD x y := (rfl)
@[simp] theorem evq_sl (a lo hi : E) : ev T (.sl a lo hi) r = (ev T a r).bind fun x => (if isAnil lo then .val none else (ev T lo r).bind optI : Res (Option Int)).bind fun l => (if isAnil hi then .val none else (ev T hi r).bind optI : Res (Option Int)).bind fun h => slD x l h := (rfl)
@[simp] theorem evq_rev (a : E) : ev T (.rev a) r = (ev T a r).bind revD := (rfl)
@[simp] theorem evq_b1 (f : B1) (a : E) : ev T (.b1 f a) r = (ev T a r).bind fun x => b1D f x := (rfl)
@[simp] theorem evq_isi (a : E) (k : Nat) : ev T (.isi a k) r = (ev T a r).bind fun x => isiD x k := (rfl)
@[simp] theorem evq_call (f : Nat) (es : E) : ev T (.call f es) r = (ev T es r).bind fun y => (argsD y).bind fun ys => callF T f ys := (rfl)
@[simp] theorem evq_callIf (c : E) (f g : Nat) (es : E) : ev T (.callIf c f g es) r = (ev T c r).bind fun x => (ifB x (.val f) (.val g)).bind fun k => (ev T es r).bind fun y => (argsD y).bind fun ys => callF T k ys := by
  show (ev T c r).bind _ = (ev T c r).bind _
  first | rfl | (congr 1; funext x; cases x <;> first | rfl | (rename_i b; cases b <;> rfl))
def pickR (fs : List Nat) (x : D) : Res Nat := match x with
  | .int j => (match (ixN fs.length j).bind fun n => fs[n]? with | some k => .val k | none => .bad)
  | _ => .bad
@[simp] theorem evq_callIx (fs : List Nat) (i es : E) : ev T (.callIx fs i es) r = (ev T i r).bind fun x => (pickR fs x).bind fun k => (ev T es r).bind fun y => (argsD y).bind fun ys => callF T k ys := by
  show (ev T i r).bind _ = (ev T i r).bind _
  first | rfl | (congr 1; funext x; cases x <;> rfl)
@[simp] theorem evq_rng (es : E) : ev T (.rng es) r = (ev T es r).bind fun y => (argsD y).bind rngD := (rfl)
@[simp] theorem evq_zip (es : E) : ev T (.zip es) r = (ev T es r).bind fun y => (argsD y).bind zipD := (rfl)
@[simp] theorem evq_enm (a : E) : ev T (.enm a) r = (ev T a r).bind fun x => (itemsD x).bind fun xs => .val (.lst (enmL 0 xs)) := (rfl)
@[simp] theorem evq_sset (a : E) : ev T (.sset a) r = (ev T a r).bind ssD := (rfl)
@[simp] theorem evq_lz (es : E) : ev T (.lz es) r = (ev T es r).bind fun y => (argsD y).bind lzD := (rfl)
@[simp] theorem evq_mm (mx : Bool) (a b : E) : ev T (.mm mx a b) r = (ev T a r).bind fun x => (ev T b r).bind fun y => mmD mx x y := (rfl)
/-- one turn of a comprehension -/
def lcF (T : Tb) (elt : E) (tg : Tg) (cond : E) (r0 : Rho) (d : D) : Res (Option D) := match bindT tg d r0 with
  | some r1 => (if isAnil cond then .val true else (ev T cond r1).bind boolD : Res Bool).bind fun b => if b then (ev T elt r1).bind fun y => .val (some y) else .val none
  | none => .bad
@[simp] theorem evq_lc (elt : E) (tg : Tg) (it cond : E) (own : List (PySem.Str × Nat)) : ev T (.lc elt tg it cond own) r = (ev T it r).bind fun x => (itemsD x).bind fun xs => if big xs.length then (lcGo (lcF T elt tg cond (wipe r (own.map (·.2)))) xs).bind fun ys => .val (.lst ys) else .bad := (rfl)
@[simp] theorem itemsD_lst (xs : List D) : itemsD (.lst xs) = .val xs := (rfl)
@[simp] theorem itemsD_tup (xs : List D) : itemsD (.tup xs) = .val xs := (rfl)
@[simp] theorem boolD_bl (b : Bool) : boolD (.bl b) = .val b := (rfl)
theorem lcGo_map {f : D → Res (Option D)} {g : D → D} : ∀ {xs : List D}, (∀ x ∈ xs, f x = .val (some (g x))) → lcGo f xs = .val (xs.map g)
  | [], _ => rfl
  | x :: xs, h => by
    have h1 := h x (by simp)
    have h2 := lcGo_map (f := f) (g := g) (xs := xs) fun y hy => h y (by simp [hy])
    simp only [lcGo, h1, h2, bind_val, List.map_cons]
theorem lcGo_filter {f : D → Res (Option D)} {p : D → Bool} {g : D → D} : ∀ {xs : List D}, (∀ x ∈ xs, f x = .val (if p x then some (g x) else none)) → lcGo f xs = .val ((xs.filter p).map g)
  | [], _ => rfl
  | x :: xs, h => by
    have h1 := h x (by simp)
    have h2 := lcGo_filter (f := f) (p := p) (g := g) (xs := xs) fun y hy => h y (by simp [hy])
    simp only [lcGo, h1, h2, bind_val]
    cases hp : p x <;> simp [hp]
@[simp] theorem lcGo_nil (f : D → Res (Option D)) : lcGo f [] = .val [] := (rfl)
/-- the next item of a comprehension -/
def consO (o : Option D) (ys : List D) : List D := match o with
  | some y => y :: ys
  | none => ys
@[simp] theorem consO_some (y : D) (ys : List D) : consO (some y) ys = y :: ys := (rfl)
@[simp] theorem consO_none (ys : List D) : consO none ys = ys := (rfl)
theorem lcGo_step (f : D → Res (Option D)) (x : D) (xs : List D) (o : Option D) (h : f x = .val o) : lcGo f (x :: xs) = (lcGo f xs).bind fun ys => .val (consO o ys) := by
  simp only [lcGo, h]
  congr 1
@[simp] theorem exq_done : exec T .done e = .nx e := (rfl)
@[simp] theorem exq_seq (s t : S) : exec T (.seq s t) e = (exec T s e).then (exec T t) := by
  show (match exec T s e with | .nx e' => exec T t e' | o => o) = _
  unfold Out.then; rfl
def asgO (T : Tb) (t : Tg) (x : E) (own : Bool) (e : Env) (d : D) : Out :=
  if own then (match t, d with | .nm i, .lst _ => if isFresh T x then .nx (e.set i (some (d, true))) else .bad | _, _ => .bad)
  else match bindE t d e with | some e' => .nx e' | none => .bad
@[simp] theorem exq_asg (t : Tg) (x : E) (fz : List Nat) (vis own : Bool) : exec T (.asg t x fz vis own) e = (evS T x (frz e fz) vis).out (asgO T t x own (frz e fz)) := (rfl)
@[simp] theorem asgO_nm (i : Nat) (x : E) (d : D) : asgO T (.nm i) x false e d = .nx (e.set i (some (d, false))) := (rfl)
theorem asgO_own (i : Nat) (x : E) (xs : List D) (h : isFresh T x = true) : asgO T (.nm i) x true e (.lst xs) = .nx (e.set i (some (.lst xs, true))) := by
  show (if isFresh T x then Out.nx _ else .bad) = _
  rw [h]; rfl
@[simp] theorem asgO_ownLst (i : Nat) (es : E) (xs : List D) : asgO T (.nm i) (.lst es) true e (.lst xs) = .nx (e.set i (some (.lst xs, true))) := (rfl)
@[simp] theorem asgO_ownLc (i : Nat) (elt : E) (tg : Tg) (it cond : E) (own : List (PySem.Str × Nat)) (xs : List D) : asgO T (.nm i) (.lc elt tg it cond own) true e (.lst xs) = .nx (e.set i (some (.lst xs, true))) := (rfl)
@[simp] theorem asgO_ownMul (i : Nat) (a b : E) (xs : List D) : asgO T (.nm i) (.bin .Mult a b) true e (.lst xs) = .nx (e.set i (some (.lst xs, true))) := (rfl)
@[simp] theorem asgO_ownAdd (i : Nat) (a b : E) (xs : List D) : asgO T (.nm i) (.bin .Add a b) true e (.lst xs) = .nx (e.set i (some (.lst xs, true))) := (rfl)
@[simp] theorem asgO_ownList (i : Nat) (a : E) (xs : List D) : asgO T (.nm i) (.b1 .list a) true e (.lst xs) = .nx (e.set i (some (.lst xs, true))) := (rfl)
@[simp] theorem evS_hid (x : E) : evS T x e false = ev T x (hidE e) := (rfl)
@[simp] theorem evS_vis (x : E) : evS T x e true = (ev T x (visE e)).bind fun d => if d.flat || (isFresh T x && itemsFlat d) || noOwn e then .val d else .bad := (rfl)
def parO (T : Tb) (ts : List (Nat × Bool)) (es : E) (e : Env) (y : D) : Out := match y with
  | .lst ds => (match parE T (noOwn e && ts.all fun p => !p.2) ts es ds e with | some e' => .nx e' | none => .bad)
  | _ => .bad
@[simp] theorem exq_par (ts : List (Nat × Bool)) (es : E) (fz : List Nat) : exec T (.par ts es fz) e = (ev T es (visE (frz e fz))).out (parO T ts es (frz e fz)) := by
  show Res.out _ _ = Res.out _ _
  congr 1
@[simp] theorem exq_drop (x : E) : exec T (.drop x) e = (ev T x (visE e)).out fun _ => .nx e := (rfl)
@[simp] theorem exq_ret (x : E) : exec T (.ret x) e = (ev T x (visE e)).out fun d => .rt d (isFresh T x) := (rfl)
@[simp] theorem exq_retN : exec T .retN e = .rt .non false := (rfl)
@[simp] theorem exq_rais (k : Nat) (m : PySem.Str) : exec T (.rais k m) e = .ex k := (rfl)
def ifO (x : D) (a b : Out) : Out := match x with
  | .bl true => a
  | .bl false => b
  | _ => .bad
@[simp] theorem ifO_bl (b : Bool) (x y : Out) : ifO (.bl b) x y = if b then x else y := by cases b <;> rfl
@[simp] theorem exq_iff (c : E) (a b : S) : exec T (.iff c a b) e = (ev T c (visE e)).out fun x => ifO x (exec T a e) (exec T b e) := by
  show Res.out _ _ = Res.out _ _
  first | rfl | (congr 1; funext x; cases x <;> first | rfl | (rename_i b; cases b <;> rfl))
def forF (T : Tb) (t : Tg) (body : S) (d : D) (e1 : Env) : Out := match bindE t d e1 with
  | some e2 => exec T body e2
  | none => .bad
def forO (T : Tb) (t : Tg) (body : S) (e : Env) (x : D) : Out := match itemsD x with
  | .val xs => forGo (forF T t body) xs e
  | _ => .bad
@[simp] theorem forO_lst (t : Tg) (body : S) (xs : List D) : forO T t body e (.lst xs) = forGo (forF T t body) xs e := (rfl)
@[simp] theorem forO_tup (t : Tg) (body : S) (xs : List D) : forO T t body e (.tup xs) = forGo (forF T t body) xs e := (rfl)
@[simp] theorem exq_forr (t : Tg) (it : E) (fz : List Nat) (body : S) : exec T (.forr t it fz body) e = (ev T it (hidE (frz e fz))).out (forO T t body (frz e fz)) := by
  show Res.out _ _ = Res.out _ _
  congr 1
@[simp] theorem forF_nm (i : Nat) (body : S) (d : D) : forF T (.nm i) body d e = exec T body (e.set i (some (d, false))) := (rfl)
@[simp] theorem forGo_nil (b : D → Env → Out) : forGo b [] e = .nx e := (rfl)
theorem forGo_cons (b : D → Env → Out) (d : D) (ds : List D) : forGo b (d :: ds) e = (b d e).then (forGo b ds) := by
  show (match b d e with | .nx e' => forGo b ds e' | o => o) = _
  unfold Out.then; rfl
theorem exq_whil (c : E) (body : S) : exec T (.whil c body) e = whileGo (fun e1 => (ev T c (visE e1)).bind boolD) (exec T body) 100000 e := (rfl)
theorem whileGo_true {f : Env → Res Bool} {b : Env → Out} {n : Nat} (h : f e = .val true) : whileGo f b (n + 1) e = (b e).then (whileGo f b n) := by
  unfold whileGo
  rw [h]
  show (match b e with | .nx e' => whileGo f b n e' | o => o) = _
  unfold Out.then
  split <;> rfl
theorem whileGo_false {f : Env → Res Bool} {b : Env → Out} {n : Nat} (h : f e = .val false) : whileGo f b (n + 1) e = .nx e := by
  unfold whileGo
  rw [h]
def catchO (cs : List (List Nat)) (o : Out) : Out := match o with
  | .ex k => (match cs.flatten.findIdx? (fun j => j == k) with | some j => .rt (.int j) false | none => .bad)
  | o => o
@[simp] theorem exq_tryE (b : S) (ie il : Nat) (cs : List (List Nat)) : exec T (.tryE b ie il cs) e = catchO cs (exec T b e) := by
  show (match exec T b e with | .ex k => _ | o => o) = _
  unfold catchO; rfl
@[simp] theorem catchO_nx (cs : List (List Nat)) (e : Env) : catchO cs (.nx e) = .nx e := (rfl)
@[simp] theorem catchO_rt (cs : List (List Nat)) (d : D) (b : Bool) : catchO cs (.rt d b) = .rt d b := (rfl)
def ownO (o : Option (Option (D × Bool))) (f : List D → Out) : Out := match o with
  | some (some (.lst xs, true)) => f xs
  | _ => .bad
@[simp] theorem ownO_some (xs : List D) (f : List D → Out) : ownO (some (some (.lst xs, true))) f = f xs := (rfl)
@[simp] theorem exq_retO (x : Nat) : exec T (.retO x) e = ownO e[x]? fun xs => .rt (.lst xs) true := by
  show (match e[x]? with | some (some (.lst xs, true)) => _ | _ => _) = _
  unfold ownO; rfl
@[simp] theorem exq_app (x : Nat) (v : E) : exec T (.app x v) e = ownO e[x]? fun xs => (ev T v (visE e)).out fun d => if big (xs.length + 1) && d.flat then .nx (e.set x (some (.lst (xs ++ [d]), true))) else .bad := by
  show (match e[x]? with | some (some (.lst xs, true)) => _ | _ => _) = _
  unfold ownO; rfl
def extO (x : Nat) (e : Env) (xs : List D) (d : D) : Out := match d with
  | .lst ys => if big (xs.length + ys.length) && D.flats ys then .nx (e.set x (some (.lst (xs ++ ys), true))) else .bad
  | _ => .bad
@[simp] theorem extO_lst (x : Nat) (e : Env) (xs ys : List D) : extO x e xs (.lst ys) = if big (xs.length + ys.length) && D.flats ys then .nx (e.set x (some (.lst (xs ++ ys), true))) else .bad := (rfl)
@[simp] theorem exq_ext (x : Nat) (v : E) : exec T (.ext x v) e = ownO e[x]? fun xs => (ev T v (visE e)).out (extO x e xs) := by
  show (match e[x]? with | some (some (.lst xs, true)) => _ | _ => _) = _
  unfold ownO; rfl
def keyI (d : D) (f : Int → Out) : Out := match d with
  | .int k => f k
  | _ => .bad
@[simp] theorem keyI_int (k : Int) (f : Int → Out) : keyI (.int k) f = f k := (rfl)
def setO (x : Nat) (e : Env) (xs : List D) (d : D) (k : Int) : Out := match ixN xs.length k with
  | some n => if d.flat then .nx (e.set x (some (.lst (xs.set n d), true))) else .bad
  | none => .bad
@[simp] theorem exq_setix (x : Nat) (i v : E) : exec T (.setix x i v) e = ownO e[x]? fun xs => (ev T v (visE e)).out fun d => (ev T i (visE e)).out fun j => keyI j (setO x e xs d) := by
  show (match e[x]? with | some (some (.lst xs, true)) => _ | _ => _) = _
  unfold ownO; rfl
def augO (T : Tb) (x : Nat) (v : E) (e : Env) (xs : List D) (k : Int) : Out := match ixN xs.length k with
  | some n => (match xs[n]? with
    | some (.int p) => (ev T v (visE e)).out fun d => (match d with | .int q => .nx (e.set x (some (.lst (xs.set n (.int (p + q))), true))) | _ => .bad)
    | _ => .bad)
  | none => .bad
@[simp] theorem exq_augix (x : Nat) (i v : E) : exec T (.augix x i v) e = ownO e[x]? fun xs => (ev T i (visE e)).out fun j => keyI j (augO T x v e xs) := by
  show (match e[x]? with | some (some (.lst xs, true)) => _ | _ => _) = _
  unfold ownO; rfl
theorem setO_at {x : Nat} {e : Env} {xs : List D} {d : D} {k : Int} {n : Nat} (h : ixN xs.length k = some n) (hd : d.flat = true) : setO x e xs d k = .nx (e.set x (some (.lst (xs.set n d), true))) := by
  unfold setO
  rw [h]
  show (if d.flat then _ else _) = _
  rw [hd]; rfl
theorem augO_at {x : Nat} {v : E} {e : Env} {xs : List D} {k : Int} {n : Nat} {p q : Int} (h : ixN xs.length k = some n) (hp : xs[n]? = some (.int p)) (hv : ev T v (visE e) = .val (.int q)) : augO T x v e xs k = .nx (e.set x (some (.lst (xs.set n (.int (p + q))), true))) := by
  unfold augO
  simp only [h, hp, hv, out_val]
@[simp] theorem visE_nil : visE [] = [] := (rfl)
@[simp] theorem visE_none (e : Env) : visE (none :: e) = none :: visE e := (rfl)
@[simp] theorem visE_some (d : D) (b : Bool) (e : Env) : visE (some (d, b) :: e) = some d :: visE e := (rfl)
@[simp] theorem hidE_nil : hidE [] = [] := (rfl)
@[simp] theorem hidE_none (e : Env) : hidE (none :: e) = none :: hidE e := (rfl)
@[simp] theorem hidE_someF (d : D) (e : Env) : hidE (some (d, false) :: e) = some d :: hidE e := (rfl)
@[simp] theorem hidE_someT (d : D) (e : Env) : hidE (some (d, true) :: e) = none :: hidE e := (rfl)
@[simp] theorem frz_nil (e : Env) : frz e [] = e := (rfl)
@[simp] theorem noOwn_nil : noOwn [] = true := (rfl)
@[simp] theorem noOwn_none (e : Env) : noOwn (none :: e) = noOwn e := (rfl)
@[simp] theorem noOwn_F (d : D) (e : Env) : noOwn (some (d, false) :: e) = noOwn e := (rfl)
@[simp] theorem noOwn_T (d : D) (e : Env) : noOwn (some (d, true) :: e) = false := (rfl)
def callO (o : Option Fn) (ds : List D) : Res D := match o with
  | some f => if ds.length == f.ps.length then f.sem ds else .bad
  | none => .bad
@[simp] theorem callF_eq (k : Nat) (ds : List D) : callF T k ds = callO T.fns[k]? ds := by
  unfold callF callO; rfl
@[simp] theorem callO_some (f : Fn) (ds : List D) : callO (some f) ds = if ds.length == f.ps.length then f.sem ds else .bad := (rfl)
end

section
@[simp] theorem cmp_lt (i j : Int) : cmpD .Lt (.int i) (.int j) = .val (.bl (decide (i < j))) := (rfl)
@[simp] theorem cmp_le (i j : Int) : cmpD .LtE (.int i) (.int j) = .val (.bl (decide (i ≤ j))) := (rfl)
@[simp] theorem cmp_gt (i j : Int) : cmpD .Gt (.int i) (.int j) = .val (.bl (decide (j < i))) := (rfl)
@[simp] theorem cmp_ge (i j : Int) : cmpD .GtE (.int i) (.int j) = .val (.bl (decide (j ≤ i))) := (rfl)
theorem cmp_eq (a b : D) (ha : shp a = true) (hb : shp b = true) : cmpD .Eq a b = .val (.bl (eqD a b)) := by
  show (if shp a && shp b then _ else _) = _
  rw [ha, hb]; rfl
theorem cmp_ne (a b : D) (ha : shp a = true) (hb : shp b = true) : cmpD .NotEq a b = .val (.bl (!eqD a b)) := by
  show (if shp a && shp b then _ else _) = _
  rw [ha, hb]; rfl
theorem shp_int (i : Int) : shp (.int i) = true := (rfl)
theorem shp_bl (i : Bool) : shp (.bl i) = true := (rfl)
theorem eq_int (i j : Int) : eqD (.int i) (.int j) = decide (i = j) := (rfl)
theorem eq_bl (i j : Bool) : eqD (.bl i) (.bl j) = (i == j) := (rfl)
@[simp] theorem cmp_eqI (i j : Int) : cmpD .Eq (.int i) (.int j) = .val (.bl (decide (i = j))) := (rfl)
@[simp] theorem cmp_neI (i j : Int) : cmpD .NotEq (.int i) (.int j) = .val (.bl (!decide (i = j))) := (rfl)
@[simp] theorem cmp_isB (i j : Bool) : cmpD .Is (.bl i) (.bl j) = .val (.bl (decide (i = j))) := (rfl)
@[simp] theorem cmp_isnB (i j : Bool) : cmpD .IsNot (.bl i) (.bl j) = .val (.bl (!decide (i = j))) := (rfl)
@[simp] theorem bin_addI (i j : Int) : binD .Add (.int i) (.int j) = .val (.int (i + j)) := (rfl)
@[simp] theorem bin_subI (i j : Int) : binD .Sub (.int i) (.int j) = .val (.int (i - j)) := (rfl)
theorem bin_addT (xs ys : List D) (h : xs.length + ys.length ≤ 16777216) : binD .Add (.tup xs) (.tup ys) = .val (.tup (xs ++ ys)) := by
  show (if big (xs.length + ys.length) then _ else _) = _
  rw [show big (xs.length + ys.length) = true from Nat.ble_eq_true_of_le h]; rfl
theorem bin_addL (xs ys : List D) (h : xs.length + ys.length ≤ 16777216) : binD .Add (.lst xs) (.lst ys) = .val (.lst (xs ++ ys)) := by
  show (if big (xs.length + ys.length) then _ else _) = _
  rw [show big (xs.length + ys.length) = true from Nat.ble_eq_true_of_le h]; rfl
theorem big_of {n : Nat} (h : n ≤ 16777216) : big n = true := Nat.ble_eq_true_of_le h
theorem bin_mulI (i j : Int) (h : mulOk i j = true) : binD .Mult (.int i) (.int j) = .val (.int (i * j)) := by
  show (if mulOk i j then _ else _) = _
  rw [h]; rfl
@[simp] theorem len_tup (xs : List D) : b1D .len (.tup xs) = .val (.int xs.length) := (rfl)
@[simp] theorem len_lst (xs : List D) : b1D .len (.lst xs) = .val (.int xs.length) := (rfl)
@[simp] theorem tuple_lst (xs : List D) : b1D .tuple (.lst xs) = .val (.tup xs) := (rfl)
@[simp] theorem list_tup (xs : List D) : b1D .list (.tup xs) = .val (.lst xs) := (rfl)
theorem bools_map {α : Type} (f : α → Bool) : ∀ xs : List α, boolsD (xs.map fun x => D.bl (f x)) = some (xs.map f)
  | [] => rfl
  | x :: xs => by simp [boolsD, bools_map f xs]
theorem ints_map {α : Type} (f : α → Int) : ∀ xs : List α, intsD (xs.map fun x => D.int (f x)) = some (xs.map f)
  | [] => rfl
  | x :: xs => by simp [intsD, ints_map f xs]
theorem all_map {α : Type} (f : α → Bool) (xs : List α) : b1D .all (.lst (xs.map fun x => D.bl (f x))) = .val (.bl (xs.all f)) := by
  show (match boolsD _ with | some bs => Res.val (D.bl (bs.all id)) | none => .bad) = _
  rw [bools_map]
  simp
theorem sum_map {α : Type} (f : α → Int) (xs : List α) : b1D .sum (.lst (xs.map fun x => D.int (f x))) = .val (.int (xs.map f).sum) := by
  show (match intsD _ with | some bs => Res.val (D.int bs.sum) | none => .bad) = _
  rw [ints_map]
end

section
@[simp] theorem isAnil_anil : isAnil .anil = true := (rfl)
@[simp] theorem lcF_nm0 (T : Tb) (elt : E) (i : Nat) (r0 : Rho) (d : D) : lcF T elt (.nm i) .anil r0 d = (ev T elt (r0.set i (some d))).bind fun y => .val (some y) := (rfl)
theorem lcF_tup0 (T : Tb) (elt : E) (t : Tg) (r0 r1 : Rho) (d : D) (h : bindT t d r0 = some r1) : lcF T elt t .anil r0 d = (ev T elt r1).bind fun y => .val (some y) := by
  unfold lcF
  rw [h]
  rfl
theorem lcF_if (T : Tb) (elt : E) (t : Tg) (c : E) (r0 r1 : Rho) (d : D) (h : bindT t d r0 = some r1) (hc : isAnil c = false) : lcF T elt t c r0 d = ((ev T c r1).bind boolD).bind fun b => if b then (ev T elt r1).bind fun y => .val (some y) else .val none := by
  unfold lcF
  rw [h, hc]
  rfl
mutual
def D.okk : D → Bool
  | .str s => PySem.PyData.canLay0 (.str s)
  | .tup xs => D.okks xs | .lst xs => D.okks xs
  | .dct _ _ => false | .fn _ => false
  | _ => true
def D.okks : List D → Bool
  | [] => true | x :: xs => x.okk && D.okks xs
end
mutual
def D.dep : D → Nat
  | .tup xs => D.deps xs + 1 | .lst xs => D.deps xs + 1 | .scr _ => 1
  | _ => 0
def D.deps : List D → Nat
  | [] => 0 | x :: xs => max x.dep (D.deps xs)
end
theorem scr_lay0 : ∀ ns : List Int, PySem.PyData.canLayAll0 (ns.map PySem.PyData.int) = true ∧ PySem.PyData.depthAll (ns.map PySem.PyData.int) = 0
  | [] => ⟨rfl, rfl⟩
  | n :: ns => by
    obtain ⟨h1, h2⟩ := scr_lay0 ns
    simp only [List.map_cons, PySem.PyData.canLayAll0, PySem.PyData.canLay0, PySem.PyData.depthAll, PySem.PyData.depth, h1, h2]
    exact ⟨rfl, rfl⟩
mutual
theorem okk_lay : ∀ d : D, d.okk = true → PySem.PyData.canLay0 d.py = true ∧ PySem.PyData.depth d.py = d.dep
  | .non, _ => ⟨rfl, rfl⟩
  | .bl _, _ => ⟨rfl, rfl⟩
  | .int _, _ => ⟨rfl, rfl⟩
  | .str s, h => ⟨by simp only [D.okk] at h; simpa only [D.py] using h, rfl⟩
  | .tup xs, h => by
    obtain ⟨h1, h2⟩ := okks_lay xs (by simpa only [D.okk] using h)
    simp only [D.py, PySem.PyData.canLay0, PySem.PyData.depth, D.dep, h1, h2]
    exact ⟨trivial, trivial⟩
  | .lst xs, h => by
    obtain ⟨h1, h2⟩ := okks_lay xs (by simpa only [D.okk] using h)
    simp only [D.py, PySem.PyData.canLay0, PySem.PyData.depth, D.dep, h1, h2]
    exact ⟨trivial, trivial⟩
  | .scr ns, _ => by
    obtain ⟨h1, h2⟩ := scr_lay0 ns
    simp only [D.py, PySem.PyData.canLay0, PySem.PyData.depth, D.dep, h1, h2]
    exact ⟨trivial, trivial⟩
  | .dct _ _, h => by simp [D.okk] at h
  | .fn _, h => by simp [D.okk] at h
theorem okks_lay : ∀ xs : List D, D.okks xs = true → PySem.PyData.canLayAll0 (D.pys xs) = true ∧ PySem.PyData.depthAll (D.pys xs) = D.deps xs
  | [], _ => ⟨rfl, rfl⟩
  | x :: xs, h => by
    have h' : x.okk = true ∧ D.okks xs = true := by simpa only [D.okks, Bool.and_eq_true] using h
    obtain ⟨a1, a2⟩ := okk_lay x h'.1
    obtain ⟨b1, b2⟩ := okks_lay xs h'.2
    simp only [D.pys, PySem.PyData.canLayAll0, PySem.PyData.depthAll, D.deps, a1, a2, b1, b2]
    exact ⟨rfl, trivial⟩
end
theorem shp_of {d : D} (h1 : d.okk = true) (h2 : d.dep ≤ 64) : shp d = true := by
  obtain ⟨a1, a2⟩ := okk_lay d h1
  show (PySem.PyData.canLay0 d.py && decide (PySem.PyData.depth d.py ≤ 64)) = true
  rw [a1, a2, decide_eq_true h2]
  rfl
theorem eqvAll_ints : ∀ ns : List Int, PySem.PyData.eqvAll (ns.map PySem.PyData.int) (ns.map PySem.PyData.int) = true
  | [] => rfl
  | n :: ns => by simp [PySem.PyData.eqvAll, PySem.PyData.eqv, eqvAll_ints ns]
mutual
theorem eqD_refl : ∀ d : D, d.okk = true → eqD d d = true
  | .non, _ => rfl
  | .bl b, _ => by cases b <;> rfl
  | .int i, _ => by show (i == i) = true; simp
  | .str s, h => by show (s == s) = true; simp
  | .tup xs, h => by
    have := eqDs_refl xs (by simpa only [D.okk] using h)
    show PySem.PyData.eqvAll (D.pys xs) (D.pys xs) = true
    exact this
  | .lst xs, h => by
    have := eqDs_refl xs (by simpa only [D.okk] using h)
    show PySem.PyData.eqvAll (D.pys xs) (D.pys xs) = true
    exact this
  | .scr ns, _ => eqvAll_ints ns
  | .dct _ _, h => by simp [D.okk] at h
  | .fn _, h => by simp [D.okk] at h
theorem eqDs_refl : ∀ xs : List D, D.okks xs = true → PySem.PyData.eqvAll (D.pys xs) (D.pys xs) = true
  | [], _ => rfl
  | x :: xs, h => by
    have h' : x.okk = true ∧ D.okks xs = true := by simpa only [D.okks, Bool.and_eq_true] using h
    have h1 := eqD_refl x h'.1
    have h2 := eqDs_refl xs h'.2
    simp only [D.pys, PySem.PyData.eqvAll, h2, Bool.and_true]
    exact h1
end
/-- a != a -/
theorem ne_self {d : D} (h1 : d.okk = true) (h2 : d.dep ≤ 64) : cmpD .NotEq d d = .val (.bl false) := by
  rw [cmp_ne d d (shp_of h1 h2) (shp_of h1 h2), eqD_refl d h1]
  rfl
theorem eq_self {d : D} (h1 : d.okk = true) (h2 : d.dep ≤ 64) : cmpD .Eq d d = .val (.bl true) := by
  rw [cmp_eq d d (shp_of h1 h2) (shp_of h1 h2), eqD_refl d h1]
end

theorem lift_fin (i : Int) (n : Nat) (h0 : 0 ≤ i) (h1 : i < (n : Int)) : ∃ a : Fin n, i = ((a.val : Nat) : Int) := ⟨⟨i.toNat, by omega⟩, by simp; omega⟩

theorem ix_tup (xs : List D) (i : Int) : ixD (.tup xs) (.int i) = atD xs i := (rfl)
@[simp] theorem at_0 (x : D) (xs : List D) : atD (x :: xs) 0 = .val x := by
  unfold atD ixN
  have h : (0 : Int) < ((x :: xs).length : Int) := by simp
  rw [if_pos (by decide), if_pos h]
  rfl
@[simp] theorem at_1 (x y : D) (xs : List D) : atD (x :: y :: xs) 1 = .val y := by
  unfold atD ixN
  have h : (1 : Int) < ((x :: y :: xs).length : Int) := by simp; omega
  rw [if_pos (by decide), if_pos h]
  rfl

theorem bin_mulT (x : D) (xs : List D) (k : Int) (h1 : 1 ≤ k) (h2 : k ≤ 1000) (h3 : (x :: xs).length ≤ 1000) : binD .Mult (.tup (x :: xs)) (.int k) = .val (.tup (repD (x :: xs) k.toNat)) := by
  show (if decide (1 ≤ k) && decide (k ≤ 1000) && !(x :: xs).isEmpty && Nat.ble (x :: xs).length 1000 then _ else _) = _
  rw [decide_eq_true h1, decide_eq_true h2, Nat.ble_eq_true_of_le h3]
  rfl
theorem bin_mulL (xs : List D) (k : Int) (h1 : 0 ≤ k) (h2 : k ≤ 1000) (h3 : xs.length ≤ 1000) : binD .Mult (.lst xs) (.int k) = .val (.lst (repD xs k.toNat)) := by
  show (if decide (0 ≤ k) && decide (k ≤ 1000) && Nat.ble xs.length 1000 then _ else _) = _
  rw [decide_eq_true h1, decide_eq_true h2, Nat.ble_eq_true_of_le h3]
  rfl
end CS

/-! the law's draw: some number below the bound -/
namespace CS
def drawnB : CS.S := (.seq (.asg (.nm 3) (.bin .Mult (.int 7) (.var 1)) [] true false)
 (.seq (.iff (.cmp .NotEq (.var 0) (.lst .anil))
 (.seq (.asg (.nm 3) (.ix (.var 0) (.bin .Mod (.b1 .int (.var 1)) (.b1 .len (.var 0)))) [] true false)
 (.seq (.asg (.nm 4) (.bin .FloorDiv (.var 1) (.b1 .len (.var 0))) [] true false)
 (.seq (.iff (.and (.cmp .GtE (.var 3) (.bin .Pow (.int 10) (.int 18))) (.cmp .Lt (.var 4) (.int 60)))
 (.seq (.asg (.nm 5) (.bin .FloorDiv (.var 3) (.bin .Pow (.int 10) (.int 18))) [] true false)
 (.seq (.whil (.and (.cmp .Gt (.var 5) (.int 0)) (.cmp .Gt (.var 4) (.int 0)))
 (.seq (.asg (.nm 5) (.bin .FloorDiv (.var 5) (.int 1000000)) [] true false)
 (.seq (.asg (.nm 4) (.bin .Sub (.var 4) (.int 1)) [] true false)
 .done)))
 (.seq (.iff (.cmp .Gt (.var 5) (.int 0))
 (.seq (.ret (.bin .Mod (.b1 .int (.bin .Mod (.b1 .int (.var 5)) (.int 1000000))) (.var 2)))
 .done)
 .done)
 .done)))
 .done)
 (.seq (.asg (.nm 3) (.bin .Add (.var 3) (.bin .Mult (.int 6553) (.bin .FloorDiv (.var 1) (.b1 .len (.var 0))))) [] true false)
 .done))))
 .done)
 (.seq (.asg (.nm 3) (.bin .Mod (.b1 .int (.bin .Add (.bin .Mult (.bin .Mod (.b1 .int (.var 3)) (.int 2147483563)) (.int 69069)) (.bin .Mult (.int 104723) (.bin .Add (.var 1) (.int 1))))) (.int 2147483563)) [] true false)
 (.seq (.asg (.nm 3) (.bin .Mod (.b1 .int (.bin .Add (.bin .Mult (.var 3) (.var 3)) (.bin .FloorDiv (.var 3) (.int 3)))) (.int 2147483399)) [] true false)
 (.seq (.ret (.bin .Mod (.b1 .int (.bin .FloorDiv (.bin .Mod (.b1 .int (.bin .Add (.bin .Mult (.var 3) (.var 3)) (.bin .FloorDiv (.var 3) (.int 7)))) (.int 2147483647)) (.int 11))) (.var 2)))
 .done)))))

theorem mul_lit (c i : Int) (h : -(2 ^ 64) < c ∧ c < 2 ^ 64) : mulOk c i = true := by
  unfold mulOk
  simp only [Bool.or_eq_true, Bool.and_eq_true, decide_eq_true_eq]
  exact .inl h
theorem mul_lit2 (c i : Int) (h : -(2 ^ 64) < c ∧ c < 2 ^ 64) : mulOk i c = true := by
  unfold mulOk
  simp only [Bool.or_eq_true, Bool.and_eq_true, decide_eq_true_eq]
  exact .inr h
theorem scr_lay : ∀ ns : List Int, PySem.PyData.canLayAll0 (ns.map PySem.PyData.int) = true ∧ PySem.PyData.depthAll (ns.map PySem.PyData.int) = 0
  | [] => ⟨rfl, rfl⟩
  | n :: ns => by
    obtain ⟨h1, h2⟩ := scr_lay ns
    simp only [List.map_cons, PySem.PyData.canLayAll0, PySem.PyData.canLay0, PySem.PyData.depthAll, PySem.PyData.depth, h1, h2]
    exact ⟨rfl, rfl⟩
theorem shp_scr (ns : List Int) : shp (.scr ns) = true := by
  show (PySem.PyData.canLay0 (.list (ns.map PySem.PyData.int)) && decide (PySem.PyData.depth (.list (ns.map PySem.PyData.int)) ≤ 64)) = true
  obtain ⟨h1, h2⟩ := scr_lay ns
  simp only [PySem.PyData.canLay0, PySem.PyData.depth, h1, h2]
  rfl
theorem eq_scr (ns : List Int) : eqD (.scr ns) (.lst []) = ns.isEmpty := by
  cases ns <;> rfl
theorem whl (T : Tb) (a b c d : Option (D × Bool)) : ∀ (n : Nat) (t : Nat) (x : Int), t < n → 0 ≤ x → ∃ (t' y : Int), 0 ≤ y ∧ whileGo (fun e1 => (ev T (.and (.cmp .Gt (.var 5) (.int 0)) (.cmp .Gt (.var 4) (.int 0))) (visE e1)).bind boolD) (exec T (.seq (.asg (.nm 5) (.bin .FloorDiv (.var 5) (.int 1000000)) [] true false)
 (.seq (.asg (.nm 4) (.bin .Sub (.var 4) (.int 1)) [] true false)
 .done))) n [a, b, c, d, some (.int t, false), some (.int x, false)] = .nx [a, b, c, d, some (.int t', false), some (.int y, false)]
  | 0, t, x, h, _ => absurd h (Nat.not_lt_zero t)
  | n + 1, t, x, h, hx => by
    have hc : (fun e1 => (ev T (.and (.cmp .Gt (.var 5) (.int 0)) (.cmp .Gt (.var 4) (.int 0))) (visE e1)).bind boolD) [a, b, c, d, some (.int t, false), some (.int x, false)] = .val (decide (0 < x) && decide (0 < (t : Int))) := by
      have hv : visE [a, b, c, d, some (.int t, false), some (.int x, false)] = [a.map (·.1), b.map (·.1), c.map (·.1), d.map (·.1), some (.int t), some (.int x)] := rfl
      simp only [hv, evq_and, evq_cmp, evq_var, evq_int]
      simp [cmpD]
      by_cases h1 : 0 < x <;> simp [h1]
    by_cases h1 : 0 < x ∧ 0 < (t : Int)
    · have e1 : (decide (0 < x) && decide (0 < (t : Int))) = true := by simp [h1.1]; omega
      rw [e1] at hc
      rw [whileGo_true hc]
      obtain ⟨k, rfl⟩ : ∃ k, t = k + 1 := ⟨t - 1, by omega⟩
      have hb : exec T (.seq (.asg (.nm 5) (.bin .FloorDiv (.var 5) (.int 1000000)) [] true false) (.seq (.asg (.nm 4) (.bin .Sub (.var 4) (.int 1)) [] true false) .done)) [a, b, c, d, some (.int (k + 1 : Nat), false), some (.int x, false)] = .nx [a, b, c, d, some (.int (k : Nat), false), some (.int (x / 1000000), false)] := by
        have hv : ∀ t x, visE [a, b, c, d, some (.int t, false), some (.int x, false)] = [a.map (·.1), b.map (·.1), c.map (·.1), d.map (·.1), some (.int t), some (.int x)] := fun _ _ => rfl
        simp [exq_seq, exq_asg, evS_vis, hv, evq_bin, evq_var, evq_int, binD, divD, divOk, subD, asgO_nm, exq_done, D.flat]
      rw [hb, then_nx]
      exact whl T a b c d n k (x / 1000000) (by omega) (Int.ediv_nonneg hx (by omega))
    · have e1 : (decide (0 < x) && decide (0 < (t : Int))) = false := by
        simp only [Bool.and_eq_false_iff, decide_eq_false_iff_not]
        omega
      rw [e1] at hc
      rw [whileGo_false hc]
      exact ⟨t, x, hx, rfl⟩
theorem drawn_ok (T : Tb) (ns : List Int) (k m : Int) (hn : ns.length ≤ 63) (hk : 0 ≤ k) (hm : 0 < m) : ∃ i, runDef T 6 drawnB false [.scr ns, .int k, .int m] = .val (.int i) ∧ 0 ≤ i ∧ i < m := by
  have fin : ∀ (c : Int) (x y : Option (D × Bool)), ∃ i, (exec T (.seq (.asg (.nm 3) (.bin .Mod (.b1 .int (.bin .Add (.bin .Mult (.bin .Mod (.b1 .int (.var 3)) (.int 2147483563)) (.int 69069)) (.bin .Mult (.int 104723) (.bin .Add (.var 1) (.int 1))))) (.int 2147483563)) [] true false)
 (.seq (.asg (.nm 3) (.bin .Mod (.b1 .int (.bin .Add (.bin .Mult (.var 3) (.var 3)) (.bin .FloorDiv (.var 3) (.int 3)))) (.int 2147483399)) [] true false)
 (.seq (.ret (.bin .Mod (.b1 .int (.bin .FloorDiv (.bin .Mod (.b1 .int (.bin .Add (.bin .Mult (.var 3) (.var 3)) (.bin .FloorDiv (.var 3) (.int 7)))) (.int 2147483647)) (.int 11))) (.var 2)))
 .done))) [some (.scr ns, false), some (.int k, false), some (.int m, false), some (.int c, false), x, y]).fin false = .val (.int i) ∧ 0 ≤ i ∧ i < m := by
    intro c x y
    have hv : ∀ c, visE [some (.scr ns, false), some (.int k, false), some (.int m, false), some (.int c, false), x, y] = [some (.scr ns), some (.int k), some (.int m), some (.int c), x.map (·.1), y.map (·.1)] := fun _ => rfl
    have m1 : ∀ i, mulOk i 69069 = true := fun i => mul_lit2 _ _ (by decide)
    have m2 : ∀ i, mulOk 104723 i = true := fun i => mul_lit _ _ (by decide)
    have d1 : decide ((0:Int) < 2147483563) = true := by decide
    have d2 : decide ((0:Int) < 2147483399) = true := by decide
    have d3 : decide ((0:Int) < 2147483647) = true := by decide
    have q3 : divOk 3 = true := by decide
    have q7 : divOk 7 = true := by decide
    have q11 : divOk 11 = true := by decide
    rw [exq_seq, exq_asg, evS_vis, frz_nil, hv]
    simp only [evq_bin, evq_int, evq_b1, evq_var, List.getElem?_cons_zero, List.getElem?_cons_succ, varR_some, bind_val, b1D, binD, modD, addD, mulD, m1, m2, d1, if_true, D.flat, Bool.true_or, out_val, asgO_nm, then_nx, List.set_cons_succ, List.set_cons_zero]
    have sq : ∀ j i : Int, 0 < j → j < 2 ^ 40 → 0 ≤ i % j ∧ i % j < 2 ^ 40 := fun j i h1 h2 => ⟨Int.emod_nonneg i (by omega), Int.lt_trans (Int.emod_lt_of_pos i h1) h2⟩
    generalize hc1 : (c % 2147483563 * 69069 + 104723 * (k + 1)) % 2147483563 = c1
    have b1 : 0 ≤ c1 ∧ c1 < 2 ^ 40 := by rw [← hc1]; exact sq 2147483563 _ (by decide) (by decide)
    have s1 : mulOk c1 c1 = true := mul_lit _ _ ⟨by omega, by omega⟩
    rw [exq_seq, exq_asg, evS_vis, frz_nil, hv]
    simp only [evq_bin, evq_int, evq_b1, evq_var, List.getElem?_cons_zero, List.getElem?_cons_succ, varR_some, bind_val, b1D, binD, modD, addD, mulD, divD, s1, q3, d2, if_true, D.flat, Bool.true_or, out_val, asgO_nm, then_nx, List.set_cons_succ, List.set_cons_zero]
    generalize hc2 : (c1 * c1 + c1 / 3) % 2147483399 = c2
    have b2 : 0 ≤ c2 ∧ c2 < 2 ^ 40 := by rw [← hc2]; exact sq 2147483399 _ (by decide) (by decide)
    have s2 : mulOk c2 c2 = true := mul_lit _ _ ⟨by omega, by omega⟩
    rw [exq_seq, exq_ret, hv]
    simp only [evq_bin, evq_int, evq_b1, evq_var, List.getElem?_cons_zero, List.getElem?_cons_succ, varR_some, bind_val, b1D, binD, modD, addD, mulD, divD, s2, q7, q11, d3, decide_eq_true hm, if_true, out_val, then_rt, fin_rt]
    exact ⟨_, rfl, Int.emod_nonneg _ (by omega), Int.emod_lt_of_pos _ hm⟩
  rw [runDef_eq]
  show ∃ i, (exec T drawnB [some (.scr ns, false), some (.int k, false), some (.int m, false), none, none, none]).fin false = .val (.int i) ∧ _
  unfold drawnB
  have hv : ∀ x y z, visE [some (.scr ns, false), some (.int k, false), some (.int m, false), x, y, z] = [some (.scr ns), some (.int k), some (.int m), x.map (·.1), y.map (·.1), z.map (·.1)] := fun _ _ _ => rfl
  have m7 : ∀ i, mulOk 7 i = true := fun i => mul_lit _ _ (by decide)
  have m6 : ∀ i, mulOk 6553 i = true := fun i => mul_lit _ _ (by decide)
  rw [exq_seq, exq_asg, evS_vis, frz_nil, hv]
  simp only [evq_bin, evq_int, evq_var, List.getElem?_cons_zero, List.getElem?_cons_succ, varR_some, bind_val, binD, mulD, m7, if_true, D.flat, Bool.true_or, out_val, asgO_nm, then_nx, List.set_cons_succ, List.set_cons_zero]
  rw [exq_seq, exq_iff, hv]
  have hs1 : shp (.lst []) = true := by decide +kernel
  simp only [evq_cmp, evq_lst, evq_anil, argsD_lst, evq_var, List.getElem?_cons_zero, varR_some, bind_val, show big ([] : List D).length = true from rfl, if_true, cmpD, shp_scr, hs1, Bool.and_self, eq_scr, out_val, ifO_bl]
  cases hns : ns with
  | nil =>
    subst hns
    simp only [List.isEmpty_nil, Bool.not_true, Bool.false_eq_true, if_false, exq_done, then_nx]
    exact fin _ _ _
  | cons n0 nr =>
    rw [← hns]
    have hl : 0 < ns.length := by rw [hns]; simp
    have hb : (!ns.isEmpty) = true := by rw [hns]; rfl
    rw [hb, if_pos rfl]
    have hl' : (0 : Int) < (ns.length : Int) := by omega
    have hix : ∃ c, ixD (.scr ns) (.int (k % (ns.length : Int))) = .val (.int c) := by
      have h0 := Int.emod_nonneg k (show (ns.length : Int) ≠ 0 by omega)
      have h1 := Int.emod_lt_of_pos k hl'
      have hlt : (k % (ns.length : Int)).toNat < ns.length := by omega
      refine ⟨ns[(k % (ns.length : Int)).toNat], ?_⟩
      show atD (ns.map D.int) _ = _
      unfold atD ixN
      simp [h0, h1, hlt]
    obtain ⟨c, hc⟩ := hix
    have hdl : divOk (ns.length : Int) = true := by
      unfold divOk
      simp [hl']
      omega
    rw [exq_seq, exq_asg, evS_vis, frz_nil, hv]
    simp only [evq_ix, evq_bin, evq_b1, evq_var, List.getElem?_cons_zero, List.getElem?_cons_succ, varR_some, bind_val, b1D, binD, modD, decide_eq_true hl', if_true, hc, D.flat, Bool.true_or, out_val, asgO_nm, then_nx, List.set_cons_succ, List.set_cons_zero]
    rw [exq_seq, exq_asg, evS_vis, frz_nil, hv]
    simp only [evq_bin, evq_b1, evq_var, List.getElem?_cons_zero, List.getElem?_cons_succ, varR_some, bind_val, b1D, binD, divD, hdl, if_true, D.flat, Bool.true_or, out_val, asgO_nm, then_nx, List.set_cons_succ, List.set_cons_zero]
    have hp : powOk 10 18 = true := by decide
    have hrest : ∀ (x y : Option (D × Bool)), exec T (.seq (.asg (.nm 3) (.bin .Add (.var 3) (.bin .Mult (.int 6553) (.bin .FloorDiv (.var 1) (.b1 .len (.var 0))))) [] true false) .done) [some (.scr ns, false), some (.int k, false), some (.int m, false), some (.int c, false), x, y] = .nx [some (.scr ns, false), some (.int k, false), some (.int m, false), some (.int (c + 6553 * (k / (ns.length : Int))), false), x, y] := fun x y => by
      rw [exq_seq, exq_asg, evS_vis, frz_nil, hv]
      simp only [evq_bin, evq_int, evq_b1, evq_var, List.getElem?_cons_zero, List.getElem?_cons_succ, varR_some, bind_val, b1D, binD, divD, addD, mulD, m6, hdl, if_true, D.flat, Bool.true_or, out_val, asgO_nm, then_nx, List.set_cons_succ, List.set_cons_zero, Option.map_some, exq_done]
    rw [exq_seq, exq_iff, hv]
    simp only [evq_and, evq_cmp, evq_bin, evq_int, evq_var, List.getElem?_cons_zero, List.getElem?_cons_succ, Option.map_some, varR_some, bind_val, binD, powD, hp, if_true, cmpD, ifB_bl]
    have hdp : divOk (10 ^ Int.toNat 18) = true := by decide
    by_cases hbig : (10 : Int) ^ Int.toNat 18 ≤ c ∧ k / (ns.length : Int) < 60
    · simp only [decide_eq_true hbig.1, decide_eq_true hbig.2, if_true, out_val, ifO_bl]
      rw [exq_seq, exq_asg, evS_vis, frz_nil, hv]
      simp only [evq_bin, evq_int, evq_var, List.getElem?_cons_zero, List.getElem?_cons_succ, Option.map_some, varR_some, bind_val, binD, powD, hp, if_true, divD, hdp, D.flat, Bool.true_or, out_val, asgO_nm, then_nx, List.set_cons_succ, List.set_cons_zero]
      have hq : 0 ≤ k / (ns.length : Int) := Int.ediv_nonneg hk (by omega)
      obtain ⟨t, ht⟩ : ∃ t : Nat, k / (ns.length : Int) = t := ⟨(k / (ns.length : Int)).toNat, by omega⟩
      have hc0 : 0 ≤ c / 10 ^ Int.toNat 18 := Int.ediv_nonneg (Int.le_trans (by decide) hbig.1) (by decide)
      rw [exq_seq, exq_whil, ht]
      obtain ⟨t', y, hy, hw⟩ := whl T (some (.scr ns, false)) (some (.int k, false)) (some (.int m, false)) (some (.int c, false)) 100000 t _ (by omega) hc0
      rw [hw, then_nx, exq_seq, exq_iff, hv]
      simp only [evq_cmp, evq_int, evq_var, List.getElem?_cons_zero, List.getElem?_cons_succ, Option.map_some, varR_some, bind_val, cmpD, out_val, ifO_bl]
      by_cases hy0 : 0 < y
      · simp only [decide_eq_true hy0, if_true]
        rw [exq_seq, exq_ret, hv]
        simp only [evq_bin, evq_b1, b1D, evq_int, evq_var, List.getElem?_cons_zero, List.getElem?_cons_succ, Option.map_some, varR_some, bind_val, binD, modD, decide_eq_true hm, show decide ((0:Int) < 1000000) = true by decide, if_true, out_val, then_rt, fin_rt]
        exact ⟨_, rfl, Int.emod_nonneg _ (by omega), Int.emod_lt_of_pos _ hm⟩
      · simp only [decide_eq_false hy0, Bool.false_eq_true, if_false, exq_done, then_nx, hrest]
        exact fin _ _ _
    · have hz : (if decide ((10 : Int) ^ Int.toNat 18 ≤ c) = true then (Res.val (D.bl (decide (k / (ns.length : Int) < 60))) : Res D) else .val (.bl false)) = .val (.bl false) := by
        by_cases h1 : (10 : Int) ^ Int.toNat 18 ≤ c
        · have h2 : ¬ k / (ns.length : Int) < 60 := fun z => hbig ⟨h1, z⟩
          rw [decide_eq_true h1, decide_eq_false h2]
          rfl
        · rw [decide_eq_false h1]
          rfl
      rw [hz]
      simp only [out_val, ifO_bl, Bool.false_eq_true, if_false, exq_done, then_nx, hrest]
      exact fin _ _ _
end CS

/-! plain functions: ranges, payments, products, sums -/
namespace CS
def tI (xs : List Int) : D := .tup (xs.map .int)
def rgI (lo : Int) : Nat → List Int
  | 0 => []
  | n + 1 => lo :: rgI (lo + 1) n
theorem rng_rgI : ∀ (n : Nat) (lo : Int), rngL lo n = (rgI lo n).map .int
  | 0, _ => rfl
  | n + 1, lo => by simp [rngL, rgI, rng_rgI n]
@[simp] theorem rgI_len : ∀ (n : Nat) (lo : Int), (rgI lo n).length = n
  | 0, _ => rfl
  | n + 1, lo => by simp [rgI, rgI_len n]
theorem mem_rgI : ∀ {n : Nat} {lo x : Int}, x ∈ rgI lo n ↔ lo ≤ x ∧ x < lo + n
  | 0, lo, x => by
    have : ¬ (lo ≤ x ∧ x < lo + ((0 : Nat) : Int)) := by omega
    simp only [this, iff_false]
    simp [rgI]
  | n + 1, lo, x => by
    simp [rgI, mem_rgI (n := n)]
    omega
theorem rgI_add : ∀ (m n : Nat) (lo : Int), rgI lo (m + n) = rgI lo m ++ rgI (lo + m) n
  | 0, n, lo => by simp [rgI]
  | m + 1, n, lo => by
    have e : m + 1 + n = (m + n) + 1 := by omega
    rw [e]
    simp only [rgI, List.cons_append, rgI_add m n]
    congr 3
    simp; omega
def minI (f q : Int) : Int := if q < f then q else f
def payI : List Int → List Int → Int → List (List Int)
  | [], _, a => if a = 0 then [[]] else []
  | c :: cs, f :: fs, a => (rgI 0 (minI f (a / c) + 1).toNat).flatMap fun m => (payI cs fs (a - m * c)).map (m :: ·)
  | _ :: _, [], _ => []
def prodI : List Int → List (List Int)
  | [] => [[]]
  | f :: fs => (rgI 0 (f + 1).toNat).flatMap fun m => (prodI fs).map (m :: ·)
def dotI : List Int → List Int → Int
  | c :: cs, m :: ms => c * m + dotI cs ms
  | _, _ => 0
theorem mem_prodI : ∀ {fs s : List Int}, s ∈ prodI fs → s.length = fs.length ∧ (∀ x ∈ s, 0 ≤ x) 
  | [], s, h => by
    simp [prodI] at h
    subst h
    simp
  | f :: fs, s, h => by
    simp only [prodI, List.mem_flatMap, List.mem_map] at h
    obtain ⟨m, hm, t, ht, rfl⟩ := h
    obtain ⟨h1, h2⟩ := mem_prodI ht
    have := mem_rgI.mp hm
    refine ⟨by simp [h1], ?_⟩
    intro x hx
    rcases List.mem_cons.mp hx with rfl | hx
    · exact this.1
    · exact h2 x hx
theorem dotI_nonneg : ∀ {cs s : List Int}, (∀ c ∈ cs, 0 < c) → (∀ x ∈ s, 0 ≤ x) → 0 ≤ dotI cs s
  | [], _, _, _ => by simp [dotI]
  | _ :: _, [], _, _ => by simp [dotI]
  | c :: cs, m :: ms, hc, hs => by
    have h1 := dotI_nonneg (cs := cs) (s := ms) (fun x hx => hc x (by simp [hx])) (fun x hx => hs x (by simp [hx]))
    have h2 : 0 ≤ c * m := Int.mul_nonneg (Int.le_of_lt (hc c (by simp))) (hs m (by simp))
    simp only [dotI]
    omega
theorem flatMap_nil {α β : Type} {f : α → List β} : ∀ {xs : List α}, (∀ x ∈ xs, f x = []) → xs.flatMap f = []
  | [], _ => rfl
  | x :: xs, h => by
    rw [List.flatMap_cons, h x (by simp), flatMap_nil (xs := xs) fun y hy => h y (by simp [hy])]
    rfl
theorem flatMap_ext {α β : Type} {f g : α → List β} : ∀ {xs : List α}, (∀ x ∈ xs, f x = g x) → xs.flatMap f = xs.flatMap g
  | [], _ => rfl
  | x :: xs, h => by
    rw [List.flatMap_cons, List.flatMap_cons, h x (by simp), flatMap_ext (xs := xs) fun y hy => h y (by simp [hy])]
theorem pay_prod : ∀ {cs fs : List Int} {a : Int}, cs.length = fs.length → (∀ c ∈ cs, 0 < c) → (∀ f ∈ fs, 0 ≤ f) → 0 ≤ a → payI cs fs a = (prodI fs).filter fun s => decide (dotI cs s = a)
  | [], [], a, _, _, _, _ => by
    simp only [payI, prodI]
    by_cases h : a = 0
    · subst h; rfl
    · rw [if_neg h]
      have h' : ¬ (0 = a) := fun z => h z.symm
      simp [dotI, h']
  | [], _ :: _, _, h, _, _, _ => by simp at h
  | _ :: _, [], _, h, _, _, _ => by simp at h
  | c :: cs, f :: fs, a, hl, hc, hf, ha => by
    have hc0 : 0 < c := hc c (by simp)
    have hf0 : 0 ≤ f := hf f (by simp)
    have hq : 0 ≤ a / c := Int.ediv_nonneg ha (Int.le_of_lt hc0)
    have ih : ∀ b, 0 ≤ b → payI cs fs b = (prodI fs).filter fun s => decide (dotI cs s = b) := fun b hb => pay_prod (by simpa using hl) (fun x hx => hc x (by simp [hx])) (fun x hx => hf x (by simp [hx])) hb
    simp only [payI, prodI, List.filter_flatMap, List.filter_map]
    obtain ⟨k, hk⟩ : ∃ k : Nat, (f + 1).toNat = (minI f (a / c) + 1).toNat + k := ⟨(f + 1).toNat - (minI f (a / c) + 1).toNat, by unfold minI; split <;> omega⟩
    rw [hk, rgI_add, List.flatMap_append]
    have h2 : ((rgI (0 + ((minI f (a / c) + 1).toNat : Int)) k).flatMap fun m => ((prodI fs).filter ((fun s => decide (dotI (c :: cs) s = a)) ∘ fun s => m :: s)).map fun s => m :: s) = [] := by
      apply flatMap_nil
      intro m hm
      have hm' := mem_rgI.mp hm
      have hmq : a / c < m := by
        unfold minI at hm' hk
        split at hm' <;> omega
      rw [List.filter_eq_nil_iff.mpr]
      · rfl
      · intro s hs
        have := dotI_nonneg (cs := cs) (fun x hx => hc x (by simp [hx])) (mem_prodI hs).2
        have h3 : a < c * m := by
          have := Int.lt_mul_of_ediv_lt hc0 hmq
          rw [Int.mul_comm]
          exact this
        simp only [Function.comp, dotI, decide_eq_true_eq]
        intro z
        have z := of_decide_eq_true z
        omega
    rw [h2, List.append_nil]
    apply flatMap_ext
    intro m hm
    have hm' := mem_rgI.mp hm
    have hmq : m ≤ a / c := by
      unfold minI at hm'
      split at hm' <;> omega
    have hb : 0 ≤ a - m * c := by
      have := Int.mul_le_of_le_ediv hc0 hmq
      omega
    rw [ih _ hb]
    congr 1
    apply List.filter_congr
    intro s hs
    simp only [Function.comp, dotI]
    rw [Int.mul_comm m c]
    congr 1
    apply propext
    constructor <;> intro h <;> omega
theorem prodI_len : ∀ {fs : List Int}, (∀ f ∈ fs, 0 ≤ f ∧ f ≤ 4) → (prodI fs).length ≤ 5 ^ fs.length
  | [], _ => by simp [prodI]
  | f :: fs, h => by
    have ih := prodI_len (fs := fs) fun x hx => h x (by simp [hx])
    have hf := h f (by simp)
    have e : (prodI (f :: fs)).length = (f + 1).toNat * (prodI fs).length := by
      simp [prodI, List.length_flatMap, List.map_const']
    rw [e, List.length_cons, Nat.pow_succ, Nat.mul_comm]
    exact Nat.mul_le_mul ih (by omega)
/-- the law's product, from the left -/
theorem prod_fold : ∀ (fs : List Int) (L : List (List Int)), fs.foldl (fun L f => L.flatMap fun s => (rgI 0 (f + 1).toNat).map fun n => s ++ [n]) L = L.flatMap fun s => (prodI fs).map (s ++ ·)
  | [], L => by simp [prodI, List.flatMap_singleton']
  | f :: fs, L => by
    rw [List.foldl_cons, prod_fold fs]
    simp only [prodI, List.flatMap_assoc, List.map_flatMap, List.map_map, List.flatMap_map]
    apply flatMap_ext
    intro s _
    apply flatMap_ext
    intro m _
    apply List.map_congr_left
    intro t _
    simp
end CS

/-! plain functions: paying coin by coin -/
namespace CS
abbrev Rw := Int × Int × Int
def rwI (fu : Bool) : List Int → List Int → Int → Int → List Rw
  | c :: cs, g :: gs, k, a => if c ≤ a ∧ 0 < g then (if fu then g else 0, c, k) :: rwI fu cs gs (k + 1) a else rwI fu cs gs (k + 1) a
  | _, _, _, _ => []
def ltR (p q : Rw) : Bool := decide (p.1 < q.1) || (decide (p.1 = q.1) && (decide (p.2.1 < q.2.1) || (decide (p.2.1 = q.2.1) && decide (p.2.2 < q.2.2))))
def mxR (p : Rw) (ps : List Rw) : Rw := ps.foldl (fun a y => if ltR a y then y else a) p
theorem mxR_mem : ∀ (ps : List Rw) (p : Rw), mxR p ps ∈ p :: ps
  | [], p => by simp [mxR]
  | q :: ps, p => by
    have h := mxR_mem ps (if ltR p q then q else p)
    show mxR (if ltR p q then q else p) ps ∈ _
    revert h
    split <;> intro h <;> rcases List.mem_cons.mp h with h | h <;> simp [h]
theorem rw_mem {fu : Bool} : ∀ {cs gs : List Int} {k a : Int} {q : Rw}, q ∈ rwI fu cs gs k a → ∃ j : Nat, q.2.2 = k + j ∧ cs[j]? = some q.2.1 ∧ q.2.1 ≤ a ∧ ∃ g, gs[j]? = some g ∧ 0 < g
  | [], _, _, _, q, h => by simp [rwI] at h
  | _ :: _, [], _, _, q, h => by simp [rwI] at h
  | c :: cs, g :: gs, k, a, q, h => by
    simp only [rwI] at h
    have up : q ∈ rwI fu cs gs (k + 1) a → ∃ j : Nat, q.2.2 = k + j ∧ (c :: cs)[j]? = some q.2.1 ∧ q.2.1 ≤ a ∧ ∃ g', (g :: gs)[j]? = some g' ∧ 0 < g' := fun h => by
      obtain ⟨j, h1, h2, h3, h4⟩ := rw_mem h
      exact ⟨j + 1, by rw [h1]; simp; omega, by simpa using h2, h3, by simpa using h4⟩
    split at h
    · rename_i hc
      rcases List.mem_cons.mp h with rfl | h
      · exact ⟨0, by simp, by simp, hc.1, g, by simp, hc.2⟩
      · exact up h
    · exact up h
/-- one coin is taken -/
def stp (fu : Bool) (cs gs : List Int) (a : Int) : Option (List Int × Int) := match rwI fu cs gs 0 a with
  | [] => none
  | p :: ps => some (gs.set (mxR p ps).2.2.toNat (gs.getD (mxR p ps).2.2.toNat 0 - 1), a - (mxR p ps).2.1)
theorem stp_some {fu : Bool} {cs gs gs' : List Int} {a a' : Int} (h : stp fu cs gs a = some (gs', a')) : ∃ (j : Nat) (c g : Int), cs[j]? = some c ∧ gs[j]? = some g ∧ 0 < g ∧ c ≤ a ∧ gs' = gs.set j (g - 1) ∧ a' = a - c := by
  unfold stp at h
  split at h
  · cases h
  · rename_i p ps e
    cases h
    have hm := mxR_mem ps p
    rw [← e] at hm
    obtain ⟨j, h1, h2, h3, g, h4, h5⟩ := rw_mem hm
    have e1 : (mxR p ps).2.2.toNat = j := by rw [h1]; simp
    refine ⟨j, _, g, h2, h4, h5, h3, ?_, rfl⟩
    rw [e1, List.getD_eq_getElem?_getD, h4]
    rfl
def lp (fu : Bool) (cs : List Int) : Nat → List Int → Int → List Int × Int
  | 0, gs, a => (gs, a)
  | n + 1, gs, a => match stp fu cs gs a with
    | none => (gs, a)
    | some (gs', a') => lp fu cs n gs' a'
theorem stp_zero {fu : Bool} : ∀ {cs gs : List Int} {k a : Int}, (∀ c ∈ cs, 0 < c) → a ≤ 0 → rwI fu cs gs k a = []
  | [], _, _, _, _, _ => by simp [rwI]
  | _ :: _, [], _, _, _, _ => by simp [rwI]
  | c :: cs, g :: gs, k, a, h, ha => by
    have hc := h c (by simp)
    have hn : ¬ (c ≤ a ∧ 0 < g) := by omega
    rw [rwI, if_neg hn]
    exact stp_zero (fun x hx => h x (by simp [hx])) ha
theorem dotI_set : ∀ {cs gs : List Int} {j : Nat} {c g x : Int}, cs[j]? = some c → gs[j]? = some g → dotI cs (gs.set j x) = dotI cs gs + c * (x - g)
  | [], _, _, _, _, _, h, _ => by simp at h
  | _ :: _, [], _, _, _, _, _, h => by simp at h
  | c' :: cs, g' :: gs, 0, c, g, x, h1, h2 => by
    simp at h1 h2
    subst h1 h2
    simp only [List.set_cons_zero, dotI, Int.mul_sub]
    omega
  | c' :: cs, g' :: gs, j + 1, c, g, x, h1, h2 => by
    have := dotI_set (cs := cs) (gs := gs) (j := j) (x := x) (by simpa using h1) (by simpa using h2)
    simp only [List.set_cons_succ, dotI, this]
    omega
/-- what is known while coins are taken -/
theorem lp_inv {fu : Bool} {cs : List Int} (hc : ∀ c ∈ cs, 0 < c) : ∀ {n : Nat} {gs : List Int} {a : Int}, 0 ≤ a → gs.length = (lp fu cs n gs a).1.length ∧ 0 ≤ (lp fu cs n gs a).2 ∧ dotI cs gs - a = dotI cs (lp fu cs n gs a).1 - (lp fu cs n gs a).2
  | 0, gs, a, ha => ⟨rfl, ha, rfl⟩
  | n + 1, gs, a, ha => by
    unfold lp
    split
    · exact ⟨rfl, ha, rfl⟩
    · rename_i gs' a' e
      obtain ⟨j, c, g, h1, h2, h3, h4, rfl, rfl⟩ := stp_some e
      have hc0 := hc c (List.mem_of_getElem? h1)
      obtain ⟨i1, i2, i3⟩ := lp_inv (fu := fu) hc (n := n) (gs := gs.set j (g - 1)) (a := a - c) (by omega)
      refine ⟨by rw [← i1]; simp, i2, ?_⟩
      rw [← i3, dotI_set h1 h2]
      have : c * (g - 1 - g) = -c := by
        have : g - 1 - g = -1 := by omega
        rw [this]; omega
      omega
/-- more turns change nothing -/
theorem lp_more {fu : Bool} {cs : List Int} (hc : ∀ c ∈ cs, 0 < c) : ∀ {n : Nat} {gs : List Int} {a : Int}, a.toNat ≤ n → 0 ≤ a → lp fu cs n gs a = lp fu cs a.toNat gs a
  | 0, gs, a, h, ha => by
    have : a.toNat = 0 := by omega
    rw [this]
  | n + 1, gs, a, h, ha => by
    by_cases h0 : a = 0
    · subst h0
      show lp fu cs (n + 1) gs 0 = (gs, 0)
      have : stp fu cs gs 0 = none := by
        unfold stp
        rw [stp_zero hc (by omega)]
      simp only [lp, this]
    · obtain ⟨m, hm⟩ : ∃ m, a.toNat = m + 1 := ⟨a.toNat - 1, by omega⟩
      rw [hm]
      simp only [lp]
      split
      · rfl
      · rename_i gs' a' e
        obtain ⟨j, c, g, h1, h2, h3, h4, rfl, rfl⟩ := stp_some e
        have hc0 := hc c (List.mem_of_getElem? h1)
        have e1 := lp_more (fu := fu) hc (n := n) (gs := gs.set j (g - 1)) (a := a - c) (by omega) (by omega)
        have e2 := lp_more (fu := fu) hc (n := m) (gs := gs.set j (g - 1)) (a := a - c) (by omega) (by omega)
        rw [e1, e2]
theorem lp_end {fu : Bool} {cs : List Int} (hc : ∀ c ∈ cs, 0 < c) : ∀ {n : Nat} {gs : List Int} {a : Int}, a.toNat ≤ n → 0 ≤ a → stp fu cs (lp fu cs n gs a).1 (lp fu cs n gs a).2 = none
  | 0, gs, a, h, ha => by
    have : a = 0 := by omega
    subst this
    show stp fu cs gs 0 = none
    unfold stp
    rw [stp_zero hc (by omega)]
  | n + 1, gs, a, h, ha => by
    unfold lp
    split
    · assumption
    · rename_i gs' a' e
      obtain ⟨j, c, g, h1, h2, h3, h4, rfl, rfl⟩ := stp_some e
      have hc0 := hc c (List.mem_of_getElem? h1)
      exact lp_end hc (by omega) (by omega)
/-- from the greatest coin to the least: what is left -/
def grR : List Int → List Int → Int → List Int × Int
  | c :: cs, g :: gs, a => ((g - minI g ((grR cs gs a).2 / c)) :: (grR cs gs a).1, (grR cs gs a).2 - minI g ((grR cs gs a).2 / c) * c)
  | _, gs, a => (gs, a)
def pick : List Int → List Int → Int → Option Nat
  | c :: cs, g :: gs, a => match pick cs gs a with
    | some k => some (k + 1)
    | none => if c ≤ a ∧ 0 < g then some 0 else none
  | _, _, _ => none
theorem pick_less : ∀ {cs gs : List Int} {a b : Int}, pick cs gs a = none → b ≤ a → pick cs gs b = none
  | [], _, _, _, _, _ => by simp [pick]
  | _ :: _, [], _, _, _, _ => by simp [pick]
  | c :: cs, g :: gs, a, b, h, hb => by
    simp only [pick] at h
    split at h
    · cases h
    · rename_i e
      have := pick_less e hb
      simp only [pick, this]
      split at h
      · cases h
      · rename_i hn
        rw [if_neg (by omega)]
theorem gr_none : ∀ {cs gs : List Int} {a : Int}, (∀ c ∈ cs, 0 < c) → (∀ g ∈ gs, 0 ≤ g) → 0 ≤ a → pick cs gs a = none → grR cs gs a = (gs, a)
  | [], _, _, _, _, _, _ => by simp [grR]
  | _ :: _, [], _, _, _, _, _ => by simp [grR]
  | c :: cs, g :: gs, a, hc, hg, ha, h => by
    simp only [pick] at h
    split at h
    · cases h
    · rename_i e
      have ih := gr_none (fun x hx => hc x (by simp [hx])) (fun x hx => hg x (by simp [hx])) ha e
      split at h
      · cases h
      · rename_i hn
        have hc0 := hc c (by simp)
        have hg0 := hg g (by simp)
        have hm : minI g (a / c) = 0 := by
          unfold minI
          by_cases h1 : c ≤ a
          · have hq : 0 ≤ a / c := Int.ediv_nonneg ha (Int.le_of_lt hc0)
            rw [if_neg (by omega)]; omega
          · have hq : a / c = 0 := Int.ediv_eq_zero_of_lt ha (by omega)
            rw [hq]; split <;> omega
        simp only [grR, ih, hm]
        simp
theorem gr_step : ∀ {cs gs : List Int} {a : Int} {k : Nat}, (∀ c ∈ cs, 0 < c) → (∀ g ∈ gs, 0 ≤ g) → 0 ≤ a → pick cs gs a = some k → ∃ c g, cs[k]? = some c ∧ gs[k]? = some g ∧ grR cs (gs.set k (g - 1)) (a - c) = grR cs gs a ∧ c ≤ a ∧ 0 < g
  | [], _, _, _, _, _, _, h => by simp [pick] at h
  | _ :: _, [], _, _, _, _, _, h => by simp [pick] at h
  | c :: cs, g :: gs, a, k, hc, hg, ha, h => by
    simp only [pick] at h
    have hc' : ∀ x ∈ cs, 0 < x := fun x hx => hc x (by simp [hx])
    have hg' : ∀ x ∈ gs, 0 ≤ x := fun x hx => hg x (by simp [hx])
    split at h
    · rename_i j e
      cases h
      obtain ⟨c1, g1, h1, h2, h3, h4, h5⟩ := gr_step hc' hg' ha e
      refine ⟨c1, g1, by simpa using h1, by simpa using h2, ?_, h4, h5⟩
      simp only [List.set_cons_succ, grR, h3]
    · rename_i e
      split at h
      · rename_i hn
        cases h
        have hc0 := hc c (by simp)
        have i1 := gr_none hc' hg' ha e
        have i2 := gr_none hc' hg' (a := a - c) (by omega) (pick_less e (by omega))
        refine ⟨c, g, by simp, by simp, ?_, hn.1, hn.2⟩
        simp only [List.set_cons_zero, grR, i1, i2]
        have hd : (a - c) / c = a / c - 1 := by
          have := Int.add_mul_ediv_right a (-1) (show c ≠ 0 by omega)
          rw [show a + -1 * c = a - c by omega] at this
          rw [this]; omega
        have hm : minI (g - 1) ((a - c) / c) = minI g (a / c) - 1 := by
          rw [hd]
          unfold minI
          split <;> split <;> omega
        rw [hm, Int.sub_mul]
        congr 1
        · congr 1
          omega
        · omega
      · cases h
theorem rw_asc : ∀ {cs gs : List Int} {k a : Int} , cs.Pairwise (· < ·) → (rwI false cs gs k a = [] ∧ pick cs gs a = none) ∨ ∃ p ps j c, rwI false cs gs k a = p :: ps ∧ pick cs gs a = some j ∧ cs[j]? = some c ∧ mxR p ps = (0, c, k + j) ∧ p.1 = 0
  | [], _, _, _, _ => .inl (by simp [rwI, pick])
  | _ :: _, [], _, _, _ => .inl (by simp [rwI, pick])
  | c :: cs, g :: gs, k, a, h => by
    obtain ⟨hlt, hp⟩ := List.pairwise_cons.mp h
    rcases rw_asc (cs := cs) (gs := gs) (k := k + 1) (a := a) hp with ⟨e1, e2⟩ | ⟨p, ps, j, c', e1, e2, e3, e4, e5⟩
    · by_cases hn : c ≤ a ∧ 0 < g
      · refine .inr ⟨(0, c, k), [], 0, c, ?_, ?_, by simp, ?_, rfl⟩
        · simp [rwI, hn, e1]
        · simp [pick, hn, e2]
        · simp [mxR]
      · refine .inl ⟨?_, ?_⟩
        · rw [rwI, if_neg hn, e1]
        · simp only [pick, e2]; rw [if_neg hn]
    · have hpk : pick (c :: cs) (g :: gs) a = some (j + 1) := by simp [pick, e2]
      have ek : k + 1 + (j : Int) = k + ((j + 1 : Nat) : Int) := by simp; omega
      by_cases hn : c ≤ a ∧ 0 < g
      · refine .inr ⟨(0, c, k), p :: ps, j + 1, c', ?_, hpk, by simpa using e3, ?_, rfl⟩
        · simp only [rwI]; rw [if_pos hn, e1]; rfl
        · have hpm : p ∈ rwI false cs gs (k + 1) a := by rw [e1]; simp
          obtain ⟨j', q1, q2, _⟩ := rw_mem hpm
          have hlt' := hlt _ (List.mem_of_getElem? q2)
          have hl : ltR (0, c, k) p = true := by
            simp [ltR, e5, hlt']
          show (p :: ps).foldl _ (0, c, k) = _
          rw [List.foldl_cons, hl, if_pos rfl, ← ek, ← e4]
          rfl
      · refine .inr ⟨p, ps, j + 1, c', ?_, hpk, by simpa using e3, ?_, e5⟩
        · rw [rwI, if_neg hn, e1]
        · rw [e4, ek]
theorem lp_great {cs : List Int} (hc : ∀ c ∈ cs, 0 < c) (ho : cs.Pairwise (· < ·)) : ∀ {n : Nat} {gs : List Int} {a : Int}, (∀ g ∈ gs, 0 ≤ g) → a.toNat ≤ n → 0 ≤ a → lp false cs n gs a = grR cs gs a
  | 0, gs, a, hg, h, ha => by
    have ha0 : a = 0 := by omega
    subst ha0
    rw [gr_none hc hg (by omega)]
    · rfl
    · rcases rw_asc (cs := cs) (gs := gs) (k := 0) (a := 0) ho with ⟨e1, e2⟩ | ⟨p, ps, j, c, e1, e2, e3, e4, e5⟩
      · exact e2
      · rw [stp_zero hc (by omega)] at e1
        cases e1
  | n + 1, gs, a, hg, h, ha => by
    rcases rw_asc (cs := cs) (gs := gs) (k := 0) (a := a) ho with ⟨e1, e2⟩ | ⟨p, ps, j, c, e1, e2, e3, e4, e5⟩
    · have : stp false cs gs a = none := by unfold stp; rw [e1]
      simp only [lp, this]
      exact (gr_none hc hg ha e2).symm
    · obtain ⟨c', g, h1, h2, h3, h4, h5⟩ := gr_step hc hg ha e2
      rw [e3] at h1
      cases h1
      have hs : stp false cs gs a = some (gs.set j (g - 1), a - c) := by
        unfold stp
        rw [e1]
        simp only [e4]
        have : ((0 : Int) + (j : Int)).toNat = j := by omega
        rw [this, List.getD_eq_getElem?_getD, h2]
        rfl
      simp only [lp, hs]
      have hc0 := hc c (List.mem_of_getElem? e3)
      rw [lp_great hc ho (n := n) ?_ (by omega) (by omega), h3]
      intro x hx
      rcases List.mem_or_eq_of_mem_set hx with hx | rfl
      · exact hg x hx
      · omega
def subI (f g : List Int) : List Int := List.zipWith (· - ·) f g
theorem dotI_sub : ∀ {cs f g : List Int}, f.length = g.length → dotI cs (subI f g) = dotI cs f - dotI cs g
  | [], _, _, _ => by simp [dotI]
  | _ :: _, [], [], _ => by simp [dotI, subI]
  | _ :: _, [], _ :: _, h => by simp at h
  | _ :: _, _ :: _, [], h => by simp at h
  | c :: cs, x :: f, y :: g, h => by
    have := dotI_sub (cs := cs) (f := f) (g := g) (by simpa using h)
    simp only [subI, List.zipWith_cons_cons, dotI] at this ⊢
    rw [this, Int.mul_sub]
    omega
/-- great, full: what is paid, coin by coin -/
def coinI (fu : Bool) (cs f : List Int) (a : Int) : Option (List Int) := if (lp fu cs a.toNat f a).2 = 0 then some (subI f (lp fu cs a.toNat f a).1) else none
theorem coin_dot {fu : Bool} {cs f : List Int} {a : Int} (hc : ∀ c ∈ cs, 0 < c) (ha : 0 ≤ a) : coinI fu cs f a = if dotI cs (subI f (lp fu cs a.toNat f a).1) = a then some (subI f (lp fu cs a.toNat f a).1) else none := by
  obtain ⟨h1, h2, h3⟩ := lp_inv (fu := fu) hc (n := a.toNat) (gs := f) ha
  rw [dotI_sub h1]
  unfold coinI
  by_cases h : (lp fu cs a.toNat f a).2 = 0
  · rw [if_pos h, if_pos (by omega)]
  · rw [if_neg h, if_neg (by omega)]
end CS

/-! the least, the greatest, the first of the sorted -/
namespace CS
open PySem PySem.W PyProof.Rows
theorem lt_irr (a : D) : ltD a a = false := lex_irrefl _
theorem lt_tr {a b c : D} (h1 : ltD a b = true) (h2 : ltD b c = true) : ltD a c = true := lex_trans _ _ _ h1 h2
theorem lt_neg {a b c : D} (h : ltD a c = true) : ltD a b = true ∨ ltD b c = true := lex_negTrans _ _ _ h
theorem lt_tot {a b : D} (h1 : ltD a b = false) (h2 : ltD b a = false) : keyToks a.py = keyToks b.py := lex_total _ _ h1 h2
theorem lt_asym {a b : D} (h1 : ltD a b = true) : ltD b a = false := by
  cases h : ltD b a with
  | false => rfl
  | true =>
    have := lt_tr h1 h
    rw [lt_irr] at this
    cases this
theorem minL_ok : ∀ (xs : List D) (x : D), minL x xs ∈ x :: xs ∧ ∀ y ∈ x :: xs, ltD y (minL x xs) = false
  | [], x => ⟨by simp [minL], fun y hy => by simp at hy; subst hy; exact lt_irr _⟩
  | z :: xs, x => by
    have ih := minL_ok xs (if ltD z x then z else x)
    have e : minL x (z :: xs) = minL (if ltD z x then z else x) xs := rfl
    rw [e]
    cases hz : ltD z x with
    | true =>
      rw [hz, if_pos rfl] at ih
      rw [if_pos rfl]
      refine ⟨List.mem_cons_of_mem _ ih.1, ?_⟩
      intro y hy
      rcases List.mem_cons.mp hy with rfl | hy
      · cases h : ltD y (minL z xs) with
        | false => rfl
        | true =>
          rcases lt_neg (b := z) h with h | h
          · rw [lt_asym hz] at h; cases h
          · rw [ih.2 z (by simp)] at h; cases h
      · exact ih.2 y hy
    | false =>
      rw [hz] at ih
      simp only [Bool.false_eq_true, if_false] at ih ⊢
      refine ⟨?_, ?_⟩
      · rcases List.mem_cons.mp ih.1 with h | h
        · rw [h]; simp
        · simp [h]
      · intro y hy
        rcases List.mem_cons.mp hy with rfl | hy
        · exact ih.2 y (by simp)
        · rcases List.mem_cons.mp hy with rfl | hy
          · cases h : ltD y (minL x xs) with
            | false => rfl
            | true =>
              rcases lt_neg (b := x) h with h | h
              · rw [hz] at h; cases h
              · rw [ih.2 x (by simp)] at h; cases h
          · exact ih.2 y (by simp [hy])
theorem sort_pw (xs : List D) : (sortL xs).Pairwise fun a b => ltD b a = false := by
  have h := List.pairwise_mergeSort (le := fun a b => !ltD b a) (fun a b c h1 h2 => by
    simp only [Bool.not_eq_true'] at h1 h2 ⊢
    cases h : ltD c a with
    | false => rfl
    | true =>
      rcases lt_neg (b := b) h with h | h
      · rw [h2] at h; cases h
      · rw [h1] at h; cases h) (fun a b => by
    cases h : ltD b a with
    | false => simp
    | true => simp [lt_asym h]) xs
  exact h.imp fun h => by simpa using h
theorem sort_head (xs : List D) (x : D) (hi : ∀ a ∈ x :: xs, ∀ b ∈ x :: xs, keyToks a.py = keyToks b.py → a = b) : ∃ r, sortL (x :: xs) = minL x xs :: r := by
  have hp := sort_pw (x :: xs)
  have hm : ∀ y, y ∈ sortL (x :: xs) ↔ y ∈ x :: xs := fun y => List.mem_mergeSort
  cases hs : sortL (x :: xs) with
  | nil =>
    have := (hm x).mpr (by simp)
    rw [hs] at this
    cases this
  | cons h r =>
    rw [hs] at hp hm
    obtain ⟨h1, _⟩ := List.pairwise_cons.mp hp
    obtain ⟨m1, m2⟩ := minL_ok xs x
    have hh : h ∈ x :: xs := (hm h).mp (by simp)
    have e1 : ltD (minL x xs) h = false := by
      rcases List.mem_cons.mp ((hm _).mpr m1) with e | e
      · rw [e]; exact lt_irr _
      · exact h1 _ e
    have e2 := m2 h hh
    have : h = minL x xs := hi h hh _ m1 (lt_tot e2 e1)
    exact ⟨r, by rw [this]⟩
theorem pys_ints : ∀ s : List Int, D.pys (s.map .int) = s.map PyData.int
  | [] => rfl
  | x :: s => by simp [D.pys, D.py, pys_ints s]
theorem py_tI (s : List Int) : (tI s).py = .tuple (s.map .int) := by
  show PyData.tuple (D.pys (s.map .int)) = _
  rw [pys_ints]
theorem toks_ints : ∀ (s t : List Int) (l m : List (Int ⊕ List Nat)), keyToksAll (s.map PyData.int) ++ l = keyToksAll (t.map PyData.int) ++ m → s = t
  | [], [], _, _, _ => rfl
  | [], y :: t, _, _, h => by simp [keyToksAll] at h
  | x :: s, [], _, _, h => by simp [keyToksAll] at h
  | x :: s, y :: t, l, m, h => by
    simp only [List.map_cons, toks_all_cons, keyToks, List.cons_append, List.nil_append, List.cons.injEq, Sum.inl.injEq, true_and] at h
    rw [h.1, toks_ints s t l m h.2]
theorem alike_ints : ∀ s t : List Int, alikeAll (s.map PyData.int) (t.map PyData.int) = true
  | [], _ => by simp [alikeAll]
  | _ :: _, [] => by simp [alikeAll]
  | x :: s, y :: t => by simp [alikeAll, alike, alike_ints s t]
/-- (sum(some), some) -/
def rowD (s : List Int) : D := .tup [.int s.sum, tI s]
theorem py_row (s : List Int) : (rowD s).py = .tuple [.int s.sum, .tuple (s.map .int)] := by
  show PyData.tuple [.int s.sum, (tI s).py] = _
  rw [py_tI]
theorem row_inj {s t : List Int} (h : keyToks (rowD s).py = keyToks (rowD t).py) : s = t := by
  rw [py_row, py_row] at h
  simp only [keyToks, toks_all_cons, List.cons_append, List.nil_append, List.cons.injEq, Sum.inl.injEq, true_and] at h
  exact toks_ints s t _ _ h.2
theorem okks_of : ∀ {xs : List D}, (∀ x ∈ xs, x.okk = true) → D.okks xs = true
  | [], _ => rfl
  | x :: xs, h => by
    simp only [D.okks, h x (by simp), okks_of (xs := xs) fun y hy => h y (by simp [hy]), Bool.and_self]
theorem deps_of {n : Nat} : ∀ {xs : List D}, (∀ x ∈ xs, x.dep ≤ n) → D.deps xs ≤ n
  | [], _ => by simp [D.deps]
  | x :: xs, h => by
    have h1 := h x (by simp)
    have h2 := deps_of (xs := xs) fun y hy => h y (by simp [hy])
    simp only [D.deps]
    omega
theorem flats_of : ∀ {xs : List D}, (∀ x ∈ xs, x.flat = true) → D.flats xs = true
  | [], _ => rfl
  | x :: xs, h => by
    simp only [D.flats, h x (by simp), flats_of (xs := xs) fun y hy => h y (by simp [hy]), Bool.and_self]
theorem okk_tI (s : List Int) : (tI s).okk = true := by
  show D.okks _ = true
  refine okks_of fun x hx => ?_
  obtain ⟨i, _, rfl⟩ := List.mem_map.mp hx
  rfl
theorem dep_tI (s : List Int) : (tI s).dep ≤ 1 := by
  show D.deps _ + 1 ≤ 1
  have := deps_of (n := 0) (xs := s.map .int) fun x hx => by
    obtain ⟨i, _, rfl⟩ := List.mem_map.mp hx
    exact Nat.le_refl 0
  omega
@[simp] theorem flat_tI (s : List Int) : (tI s).flat = true := by
  show D.flats _ = true
  refine flats_of fun x hx => ?_
  obtain ⟨i, _, rfl⟩ := List.mem_map.mp hx
  rfl
theorem flats_tI (ss : List (List Int)) : D.flats (ss.map tI) = true := flats_of fun x hx => by
  obtain ⟨i, _, rfl⟩ := List.mem_map.mp hx
  exact flat_tI i
theorem okk_ts (ss : List (List Int)) : (D.lst (ss.map tI)).okk = true := by
  show D.okks _ = true
  refine okks_of fun x hx => ?_
  obtain ⟨i, _, rfl⟩ := List.mem_map.mp hx
  exact okk_tI i
theorem dep_ts (ss : List (List Int)) : (D.lst (ss.map tI)).dep ≤ 64 := by
  show D.deps _ + 1 ≤ 64
  have := deps_of (n := 1) (xs := ss.map tI) fun x hx => by
    obtain ⟨i, _, rfl⟩ := List.mem_map.mp hx
    exact dep_tI i
  omega
theorem row_okk (s : List Int) : (rowD s).okk = true := by
  simp [rowD, D.okk, D.okks, okk_tI]
theorem row_dep (s : List Int) : (rowD s).dep ≤ 2 := by
  have := dep_tI s
  simp [rowD, D.dep, D.deps]
  omega
theorem row_flat (s : List Int) : (rowD s).flat = true := by
  simp [rowD, D.flat, D.flats]
theorem row_alike (s t : List Int) : alike (rowD s).py (rowD t).py = true := by
  rw [py_row, py_row]
  simp [alike, alikeAll, alike_ints]
theorem shp_rows (ss : List (List Int)) : shp (.lst (ss.map rowD)) = true := by
  apply shp_of
  · show D.okks _ = true
    refine okks_of fun x hx => ?_
    obtain ⟨i, _, rfl⟩ := List.mem_map.mp hx
    exact row_okk i
  · show D.deps _ + 1 ≤ 64
    have := deps_of (n := 2) (xs := ss.map rowD) fun x hx => by
      obtain ⟨i, _, rfl⟩ := List.mem_map.mp hx
      exact row_dep i
    omega
theorem cmp_rows (ss : List (List Int)) : cmpB (ss.map rowD) = true := by
  unfold cmpB
  simp only [List.all_eq_true, Bool.and_eq_true]
  intro x hx
  obtain ⟨i, _, rfl⟩ := List.mem_map.mp hx
  refine ⟨rfl, fun y hy => ?_⟩
  obtain ⟨j, _, rfl⟩ := List.mem_map.mp hy
  exact row_alike i j
theorem srt_rows (ss : List (List Int)) : sortB (ss.map rowD) = true := by
  unfold sortB
  simp only [Bool.or_eq_true, List.all_eq_true]
  left
  intro x hx
  obtain ⟨i, _, rfl⟩ := List.mem_map.mp hx
  rfl
/-- few: the payment with the least row -/
def fewI (ss : List (List Int)) : Option (List Int) := match ss with
  | [] => none
  | s :: ss => some (ss.foldl (fun a y => if ltD (rowD y) (rowD a) then y else a) s)
theorem min_rows : ∀ (ss : List (List Int)) (s : List Int), minL (rowD s) (ss.map rowD) = rowD (ss.foldl (fun a y => if ltD (rowD y) (rowD a) then y else a) s)
  | [], s => rfl
  | t :: ss, s => by
    have e : minL (rowD s) ((t :: ss).map rowD) = minL (if ltD (rowD t) (rowD s) then rowD t else rowD s) (ss.map rowD) := rfl
    rw [e, List.foldl_cons]
    split
    · exact min_rows ss t
    · exact min_rows ss s
theorem fst_rows (ss : List (List Int)) (s : List Int) : ∃ r, sortL (rowD s :: ss.map rowD) = rowD (ss.foldl (fun a y => if ltD (rowD y) (rowD a) then y else a) s) :: r := by
  rw [← min_rows]
  apply sort_head
  intro a ha b hb h
  rw [← List.map_cons (f := rowD)] at ha hb
  obtain ⟨i, _, rfl⟩ := List.mem_map.mp ha
  obtain ⟨j, _, rfl⟩ := List.mem_map.mp hb
  rw [row_inj h]
/-! (n, coin, k) -/
def rwD (p : Rw) : D := .tup [.int p.1, .int p.2.1, .int p.2.2]
theorem lt_rw (p q : Rw) : ltD (rwD p) (rwD q) = ltR p q := by
  obtain ⟨a, b, c⟩ := p
  obtain ⟨a', b', c'⟩ := q
  show dataLt (.tuple [.int a, .int b, .int c]) (.tuple [.int a', .int b', .int c']) = _
  rw [dataLt_tuple, dataLt_cons (by simp [alike]), dataLt_cons (by simp [alike]), dataLt_cons (by simp [alike])]
  have e : PyProof.Rows.lexLt itemOrd (keyToksAll []) (keyToksAll []) = false := lex_irrefl _
  rw [e, dataLt_int, dataLt_int, dataLt_int]
  simp only [PyData.eqv, beq_iff_eq, ltR]
  by_cases h1 : a = a' <;> by_cases h2 : b = b' <;> by_cases h3 : c = c' <;> simp [h1, h2, h3]
theorem max_rw : ∀ (ps : List Rw) (p : Rw), maxL (rwD p) (ps.map rwD) = rwD (mxR p ps)
  | [], p => rfl
  | q :: ps, p => by
    have e : maxL (rwD p) ((q :: ps).map rwD) = maxL (if ltD (rwD p) (rwD q) then rwD q else rwD p) (ps.map rwD) := rfl
    have e2 : mxR p (q :: ps) = mxR (if ltR p q then q else p) ps := rfl
    rw [e, e2, lt_rw]
    split
    · exact max_rw ps q
    · exact max_rw ps p
theorem shp_rw (ps : List Rw) : shp (.lst (ps.map rwD)) = true := by
  apply shp_of
  · show D.okks _ = true
    refine okks_of fun x hx => ?_
    obtain ⟨i, _, rfl⟩ := List.mem_map.mp hx
    rfl
  · show D.deps _ + 1 ≤ 64
    have := deps_of (n := 1) (xs := ps.map rwD) fun x hx => by
      obtain ⟨i, _, rfl⟩ := List.mem_map.mp hx
      exact Nat.le_refl 1
    omega
theorem flats_rw (ps : List Rw) : D.flats (ps.map rwD) = true := flats_of fun x hx => by
  obtain ⟨i, _, rfl⟩ := List.mem_map.mp hx
  rfl
theorem cmp_rw (ps : List Rw) : cmpB (ps.map rwD) = true := by
  unfold cmpB
  simp only [List.all_eq_true, Bool.and_eq_true]
  intro x hx
  obtain ⟨i, _, rfl⟩ := List.mem_map.mp hx
  refine ⟨rfl, fun y hy => ?_⟩
  obtain ⟨j, _, rfl⟩ := List.mem_map.mp hy
  rfl
theorem max_sem (ps : List Rw) (p : Rw) : b1D .max (.lst ((p :: ps).map rwD)) = .val (rwD (mxR p ps)) := by
  show (if cmpB ((p :: ps).map rwD) && shp (.lst ((p :: ps).map rwD)) then Res.val (maxL (rwD p) (ps.map rwD)) else .bad) = _
  rw [cmp_rw, shp_rw, max_rw]
  rfl
theorem min_sem (ss : List (List Int)) (s : List Int) : b1D .min (.lst ((s :: ss).map rowD)) = .val (rowD (ss.foldl (fun a y => if ltD (rowD y) (rowD a) then y else a) s)) := by
  show (if cmpB ((s :: ss).map rowD) && shp (.lst ((s :: ss).map rowD)) then Res.val (minL (rowD s) (ss.map rowD)) else .bad) = _
  rw [cmp_rows, shp_rows, min_rows]
  rfl
theorem sorted_sem (ss : List (List Int)) : b1D .sorted (.lst (ss.map rowD)) = .val (.lst (sortL (ss.map rowD))) := by
  show (if cmpB (ss.map rowD) && sortB (ss.map rowD) && shp (.lst (ss.map rowD)) then Res.val (D.lst (sortL (ss.map rowD))) else .bad) = _
  rw [cmp_rows, shp_rows, srt_rows]
  rfl
end CS

/-! the defs of law_k04_whole_paying in the own text; printed by gen.py -/
namespace LW
open PySem L2 PySem.Spec PyProof.Rows CS
def top (i : Nat) : Stmt := PySem.Challenge.pw_coinslots_k04_whole_paying.main.body.getD i (.Pass ⟨0, 0, 0, 0⟩)
def consts : List (Str × CS.D) := [("SAME", .str "same"), ("ANY", .str "any"), ("GREAT", .str "great"), ("FEW", .str "few"), ("FULL", .str "full"), ("REFUSE", .str "refuse"), ("SHORT", .str "short"), ("KEEP", .str "keep"), ("OVER", .str "over"), ("MAX_COINS", .int 3), ("MAX_WORTH", .int 20), ("MAX_ROOM", .int 4), ("MAX_WARES", .int 3), ("MAX_CREDIT", .int 40), ("MAX_LAMP", .int 5), ("MAX_COUNT", .int 60)]
@[simp] theorem con_0 : consts[0]? = some (("SAME", .str "same") : Str × CS.D) := (rfl)
@[simp] theorem con_1 : consts[1]? = some (("ANY", .str "any") : Str × CS.D) := (rfl)
@[simp] theorem con_2 : consts[2]? = some (("GREAT", .str "great") : Str × CS.D) := (rfl)
@[simp] theorem con_3 : consts[3]? = some (("FEW", .str "few") : Str × CS.D) := (rfl)
@[simp] theorem con_4 : consts[4]? = some (("FULL", .str "full") : Str × CS.D) := (rfl)
@[simp] theorem con_5 : consts[5]? = some (("REFUSE", .str "refuse") : Str × CS.D) := (rfl)
@[simp] theorem con_6 : consts[6]? = some (("SHORT", .str "short") : Str × CS.D) := (rfl)
@[simp] theorem con_7 : consts[7]? = some (("KEEP", .str "keep") : Str × CS.D) := (rfl)
@[simp] theorem con_8 : consts[8]? = some (("OVER", .str "over") : Str × CS.D) := (rfl)
@[simp] theorem con_9 : consts[9]? = some (("MAX_COINS", .int 3) : Str × CS.D) := (rfl)
@[simp] theorem con_10 : consts[10]? = some (("MAX_WORTH", .int 20) : Str × CS.D) := (rfl)
@[simp] theorem con_11 : consts[11]? = some (("MAX_ROOM", .int 4) : Str × CS.D) := (rfl)
@[simp] theorem con_12 : consts[12]? = some (("MAX_WARES", .int 3) : Str × CS.D) := (rfl)
@[simp] theorem con_13 : consts[13]? = some (("MAX_CREDIT", .int 40) : Str × CS.D) := (rfl)
@[simp] theorem con_14 : consts[14]? = some (("MAX_LAMP", .int 5) : Str × CS.D) := (rfl)
@[simp] theorem con_15 : consts[15]? = some (("MAX_COUNT", .int 60) : Str × CS.D) := (rfl)
def excs : List Str := ["SlotError", "InvalidMachine", "InvalidCounts", "InvalidProgram", "InvalidFilling", "InvalidAmount"]
/-! is_int(value, least, most): 0=value 1=least 2=most -/
def N_is_int : List Str := ["value", "least", "most"]
def B_is_int : CS.S := (.seq (.ret (.and (.isi (.var 0) 0) (.and (.not (.isi (.var 0) 1)) (.chain .LtE .LtE (.var 1) (.var 0) (.var 2)))))
 .done)
def T_is_int : Tb := ⟨[], consts, excs⟩
def F_is_int : Fn := ⟨"is_int", ["value", "least", "most"], runDef T_is_int 3 B_is_int false, false⟩
@[simp] theorem P_is_int : F_is_int.ps.length = 3 := (rfl)
theorem S_is_int (ds : List CS.D) : F_is_int.sem ds = (exec T_is_int B_is_int (ds.map (fun d => some (d, false)) ++ List.replicate (3 - ds.length) none)).fin false := rfl
theorem C_is_int : chkSs T_is_int ⟨N_is_int, defScope (top 24), fun _ => true⟩ B_is_int (defBody (top 24)) = true := by decide +kernel
/-! are_ints(value, many, least, most): 0=value 1=many 2=least 3=most 4=one -/
def N_are_ints : List Str := ["value", "many", "least", "most", "one"]
def B_are_ints : CS.S := (.seq (.ret (.and (.isi (.var 0) 3) (.and (.cmp .Eq (.b1 .len (.var 0)) (.var 1)) (.b1 .all (.lc (.call 0 (.acons (.var 4) (.acons (.var 2) (.acons (.var 3) .anil)))) (.nm 4) (.var 0) .anil [("one", 4)])))))
 .done)
def T_are_ints : Tb := ⟨[F_is_int], consts, excs⟩
def F_are_ints : Fn := ⟨"are_ints", ["value", "many", "least", "most"], runDef T_are_ints 5 B_are_ints false, false⟩
@[simp] theorem P_are_ints : F_are_ints.ps.length = 4 := (rfl)
@[simp] theorem T_are_ints_0 : T_are_ints.fns[0]? = some F_is_int := (rfl)
theorem S_are_ints (ds : List CS.D) : F_are_ints.sem ds = (exec T_are_ints B_are_ints (ds.map (fun d => some (d, false)) ++ List.replicate (5 - ds.length) none)).fin false := rfl
theorem C_are_ints : chkSs T_are_ints ⟨N_are_ints, defScope (top 25), fun _ => true⟩ B_are_ints (defBody (top 25)) = true := by decide +kernel
/-! are_worths(value, most): 0=value 1=most 2=one 3=other -/
def N_are_worths : List Str := ["value", "most", "one", "other"]
def B_are_worths : CS.S := (.seq (.iff (.or (.not (.isi (.var 0) 3)) (.or (.not (.chain .LtE .LtE (.int 1) (.b1 .len (.var 0)) (.var 1))) (.not (.call 0 (.acons (.var 0) (.acons (.b1 .len (.var 0)) (.acons (.int 1) (.acons (.gc 10) .anil))))))))
 (.seq (.ret (.bl false))
 .done)
 .done)
 (.seq (.ret (.b1 .all (.lc (.cmp .Lt (.var 2) (.var 3)) (.tup (.cons (.nm 2) (.cons (.nm 3) .nil))) (.zip (.acons (.var 0) (.acons (.sl (.var 0) (.int 1) .anil) .anil))) .anil [("one", 2), ("other", 3)])))
 .done))
def T_are_worths : Tb := ⟨[F_are_ints], consts, excs⟩
def F_are_worths : Fn := ⟨"are_worths", ["value", "most"], runDef T_are_worths 4 B_are_worths false, false⟩
@[simp] theorem P_are_worths : F_are_worths.ps.length = 2 := (rfl)
@[simp] theorem T_are_worths_0 : T_are_worths.fns[0]? = some F_are_ints := (rfl)
@[simp] theorem T_are_worths_c : T_are_worths.cons = consts := (rfl)
theorem S_are_worths (ds : List CS.D) : F_are_worths.sem ds = (exec T_are_worths B_are_worths (ds.map (fun d => some (d, false)) ++ List.replicate (4 - ds.length) none)).fin false := rfl
theorem C_are_worths : chkSs T_are_worths ⟨N_are_worths, defScope (top 26), fun _ => true⟩ B_are_worths (defBody (top 26)) = true := by decide +kernel
/-! is_program(value): 0=value 1=word -/
def N_is_program : List Str := ["value", "word"]
def B_is_program : CS.S := (.seq (.iff (.or (.not (.isi (.var 0) 3)) (.or (.cmp .NotEq (.b1 .len (.var 0)) (.int 3)) (.not (.b1 .all (.lc (.isi (.var 1) 2) (.nm 1) (.var 0) .anil [("word", 1)])))))
 (.seq (.ret (.bl false))
 .done)
 .done)
 (.seq (.ret (.and (.cmp .In (.ix (.var 0) (.int 0)) (.tup (.acons (.gc 0) (.acons (.gc 1) .anil)))) (.and (.cmp .In (.ix (.var 0) (.int 1)) (.tup (.acons (.gc 2) (.acons (.gc 3) (.acons (.gc 4) .anil))))) (.cmp .In (.ix (.var 0) (.int 2)) (.tup (.acons (.gc 5) (.acons (.gc 6) (.acons (.gc 7) (.acons (.gc 8) .anil)))))))))
 .done))
def T_is_program : Tb := ⟨[], consts, excs⟩
def F_is_program : Fn := ⟨"is_program", ["value"], runDef T_is_program 2 B_is_program false, false⟩
@[simp] theorem P_is_program : F_is_program.ps.length = 1 := (rfl)
@[simp] theorem T_is_program_c : T_is_program.cons = consts := (rfl)
theorem S_is_program (ds : List CS.D) : F_is_program.sem ds = (exec T_is_program B_is_program (ds.map (fun d => some (d, false)) ++ List.replicate (2 - ds.length) none)).fin false := rfl
theorem C_is_program : chkSs T_is_program ⟨N_is_program, defScope (top 27), fun _ => true⟩ B_is_program (defBody (top 27)) = true := by decide +kernel
/-! is_machine(candidate): 0=candidate 1=coins 2=rooms 3=wares 4=most 5=program 6=lamp -/
def N_is_machine : List Str := ["candidate", "coins", "rooms", "wares", "most", "program", "lamp"]
def B_is_machine : CS.S := (.seq (.iff (.or (.not (.isi (.var 0) 3)) (.cmp .NotEq (.b1 .len (.var 0)) (.int 6)))
 (.seq (.ret (.bl false))
 .done)
 .done)
 (.seq (.asg (.tup (.cons (.nm 1) (.cons (.nm 2) (.cons (.nm 3) (.cons (.nm 4) (.cons (.nm 5) (.cons (.nm 6) .nil))))))) (.var 0) [] true false)
 (.seq (.iff (.or (.not (.call 2 (.acons (.var 1) (.acons (.gc 9) .anil)))) (.not (.call 1 (.acons (.var 2) (.acons (.b1 .len (.var 1)) (.acons (.int 0) (.acons (.gc 11) .anil)))))))
 (.seq (.ret (.bl false))
 .done)
 .done)
 (.seq (.iff (.or (.not (.call 2 (.acons (.var 3) (.acons (.gc 12) .anil)))) (.not (.call 3 (.acons (.var 4) (.acons (.ix (.var 3) (.neg (.int 1))) (.acons (.gc 13) .anil))))))
 (.seq (.ret (.bl false))
 .done)
 .done)
 (.seq (.ret (.and (.call 0 (.acons (.var 5) .anil)) (.call 1 (.acons (.var 6) (.acons (.b1 .len (.var 1)) (.acons (.int 0) (.acons (.gc 14) .anil)))))))
 .done)))))
def T_is_machine : Tb := ⟨[F_is_program, F_are_ints, F_are_worths, F_is_int], consts, excs⟩
def F_is_machine : Fn := ⟨"is_machine", ["candidate"], runDef T_is_machine 7 B_is_machine false, false⟩
@[simp] theorem P_is_machine : F_is_machine.ps.length = 1 := (rfl)
@[simp] theorem T_is_machine_0 : T_is_machine.fns[0]? = some F_is_program := (rfl)
@[simp] theorem T_is_machine_1 : T_is_machine.fns[1]? = some F_are_ints := (rfl)
@[simp] theorem T_is_machine_2 : T_is_machine.fns[2]? = some F_are_worths := (rfl)
@[simp] theorem T_is_machine_3 : T_is_machine.fns[3]? = some F_is_int := (rfl)
@[simp] theorem T_is_machine_c : T_is_machine.cons = consts := (rfl)
theorem S_is_machine (ds : List CS.D) : F_is_machine.sem ds = (exec T_is_machine B_is_machine (ds.map (fun d => some (d, false)) ++ List.replicate (7 - ds.length) none)).fin false := rfl
theorem C_is_machine : chkSs T_is_machine ⟨N_is_machine, defScope (top 28), fun _ => true⟩ B_is_machine (defBody (top 28)) = true := by decide +kernel
/-! check_machine(value): 0=value -/
def N_check_machine : List Str := ["value"]
def B_check_machine : CS.S := (.seq (.iff (.not (.call 0 (.acons (.var 0) .anil)))
 (.seq (.rais 1 "the value is not a machine")
 .done)
 .done)
 .done)
def T_check_machine : Tb := ⟨[F_is_machine], consts, excs⟩
def F_check_machine : Fn := ⟨"check_machine", ["value"], runDef T_check_machine 1 B_check_machine false, false⟩
@[simp] theorem P_check_machine : F_check_machine.ps.length = 1 := (rfl)
@[simp] theorem T_check_machine_0 : T_check_machine.fns[0]? = some F_is_machine := (rfl)
theorem S_check_machine (ds : List CS.D) : F_check_machine.sem ds = (exec T_check_machine B_check_machine (ds.map (fun d => some (d, false)) ++ List.replicate (1 - ds.length) none)).fin false := rfl
theorem C_check_machine : chkSs T_check_machine ⟨N_check_machine, defScope (top 29), fun _ => true⟩ B_check_machine (defBody (top 29)) = true := by decide +kernel
/-! has_filling(machine, value): 0=machine 1=value 2=many 3=room -/
def N_has_filling : List Str := ["machine", "value", "many", "room"]
def B_has_filling : CS.S := (.seq (.iff (.not (.call 0 (.acons (.var 1) (.acons (.b1 .len (.ix (.var 0) (.int 0))) (.acons (.int 0) (.acons (.gc 11) .anil))))))
 (.seq (.ret (.bl false))
 .done)
 .done)
 (.seq (.ret (.b1 .all (.lc (.cmp .LtE (.var 2) (.var 3)) (.tup (.cons (.nm 2) (.cons (.nm 3) .nil))) (.zip (.acons (.var 1) (.acons (.ix (.var 0) (.int 1)) .anil))) .anil [("many", 2), ("room", 3)])))
 .done))
def T_has_filling : Tb := ⟨[F_are_ints], consts, excs⟩
def F_has_filling : Fn := ⟨"has_filling", ["machine", "value"], runDef T_has_filling 4 B_has_filling false, false⟩
@[simp] theorem P_has_filling : F_has_filling.ps.length = 2 := (rfl)
@[simp] theorem T_has_filling_0 : T_has_filling.fns[0]? = some F_are_ints := (rfl)
@[simp] theorem T_has_filling_c : T_has_filling.cons = consts := (rfl)
theorem S_has_filling (ds : List CS.D) : F_has_filling.sem ds = (exec T_has_filling B_has_filling (ds.map (fun d => some (d, false)) ++ List.replicate (4 - ds.length) none)).fin false := rfl
theorem C_has_filling : chkSs T_has_filling ⟨N_has_filling, defScope (top 30), fun _ => true⟩ B_has_filling (defBody (top 30)) = true := by decide +kernel
/-! check_filling(machine, value): 0=machine 1=value -/
def N_check_filling : List Str := ["machine", "value"]
def B_check_filling : CS.S := (.seq (.iff (.not (.call 0 (.acons (.var 0) (.acons (.var 1) .anil))))
 (.seq (.rais 4 "the value is not a filling of the machine")
 .done)
 .done)
 .done)
def T_check_filling : Tb := ⟨[F_has_filling], consts, excs⟩
def F_check_filling : Fn := ⟨"check_filling", ["machine", "value"], runDef T_check_filling 2 B_check_filling false, false⟩
@[simp] theorem P_check_filling : F_check_filling.ps.length = 2 := (rfl)
@[simp] theorem T_check_filling_0 : T_check_filling.fns[0]? = some F_has_filling := (rfl)
theorem S_check_filling (ds : List CS.D) : F_check_filling.sem ds = (exec T_check_filling B_check_filling (ds.map (fun d => some (d, false)) ++ List.replicate (2 - ds.length) none)).fin false := rfl
theorem C_check_filling : chkSs T_check_filling ⟨N_check_filling, defScope (top 31), fun _ => true⟩ B_check_filling (defBody (top 31)) = true := by decide +kernel
/-! find_worth(machine, counts): 0=machine 1=counts 2=coin 3=many -/
def N_find_worth : List Str := ["machine", "counts", "coin", "many"]
def B_find_worth : CS.S := (.seq (.ret (.b1 .sum (.lc (.bin .Mult (.var 2) (.var 3)) (.tup (.cons (.nm 2) (.cons (.nm 3) .nil))) (.zip (.acons (.ix (.var 0) (.int 0)) (.acons (.var 1) .anil))) .anil [("coin", 2), ("many", 3)])))
 .done)
def T_find_worth : Tb := ⟨[], consts, excs⟩
def F_find_worth : Fn := ⟨"find_worth", ["machine", "counts"], runDef T_find_worth 4 B_find_worth false, false⟩
@[simp] theorem P_find_worth : F_find_worth.ps.length = 2 := (rfl)
theorem S_find_worth (ds : List CS.D) : F_find_worth.sem ds = (exec T_find_worth B_find_worth (ds.map (fun d => some (d, false)) ++ List.replicate (4 - ds.length) none)).fin false := rfl
theorem C_find_worth : chkSs T_find_worth ⟨N_find_worth, defScope (top 32), fun _ => true⟩ B_find_worth (defBody (top 32)) = true := by decide +kernel
/-! worth(machine, counts): 0=machine 1=counts -/
def N_worth : List Str := ["machine", "counts"]
def B_worth : CS.S := (.seq (.drop (.call 2 (.acons (.var 0) .anil)))
 (.seq (.iff (.not (.call 1 (.acons (.var 1) (.acons (.b1 .len (.ix (.var 0) (.int 0))) (.acons (.int 0) (.acons (.gc 15) .anil))))))
 (.seq (.rais 2 "the value is not counts of coins")
 .done)
 .done)
 (.seq (.ret (.call 0 (.acons (.var 0) (.acons (.var 1) .anil))))
 .done)))
def T_worth : Tb := ⟨[F_find_worth, F_are_ints, F_check_machine], consts, excs⟩
def F_worth : Fn := ⟨"worth", ["machine", "counts"], runDef T_worth 2 B_worth false, false⟩
@[simp] theorem P_worth : F_worth.ps.length = 2 := (rfl)
@[simp] theorem T_worth_0 : T_worth.fns[0]? = some F_find_worth := (rfl)
@[simp] theorem T_worth_1 : T_worth.fns[1]? = some F_are_ints := (rfl)
@[simp] theorem T_worth_2 : T_worth.fns[2]? = some F_check_machine := (rfl)
@[simp] theorem T_worth_c : T_worth.cons = consts := (rfl)
theorem S_worth (ds : List CS.D) : F_worth.sem ds = (exec T_worth B_worth (ds.map (fun d => some (d, false)) ++ List.replicate (2 - ds.length) none)).fin false := rfl
theorem C_worth : chkSs T_worth ⟨N_worth, defScope (top 33), fun _ => true⟩ B_worth (defBody (top 33)) = true := by decide +kernel
/-! with_program(machine, program): 0=machine 1=program -/
def N_with_program : List Str := ["machine", "program"]
def B_with_program : CS.S := (.seq (.drop (.call 1 (.acons (.var 0) .anil)))
 (.seq (.iff (.not (.call 0 (.acons (.var 1) .anil)))
 (.seq (.rais 3 "the value is not a program")
 .done)
 .done)
 (.seq (.ret (.bin .Add (.bin .Add (.sl (.var 0) .anil (.int 4)) (.tup (.acons (.var 1) .anil))) (.sl (.var 0) (.int 5) .anil)))
 .done)))
def T_with_program : Tb := ⟨[F_is_program, F_check_machine], consts, excs⟩
def F_with_program : Fn := ⟨"with_program", ["machine", "program"], runDef T_with_program 2 B_with_program true, true⟩
@[simp] theorem P_with_program : F_with_program.ps.length = 2 := (rfl)
@[simp] theorem T_with_program_0 : T_with_program.fns[0]? = some F_is_program := (rfl)
@[simp] theorem T_with_program_1 : T_with_program.fns[1]? = some F_check_machine := (rfl)
theorem S_with_program (ds : List CS.D) : F_with_program.sem ds = (exec T_with_program B_with_program (ds.map (fun d => some (d, false)) ++ List.replicate (2 - ds.length) none)).fin true := rfl
theorem C_with_program : chkSs T_with_program ⟨N_with_program, defScope (top 34), fun _ => true⟩ B_with_program (defBody (top 34)) = true := by decide +kernel
/-! find_payments(coins, filling, amount): 0=coins 1=filling 2=amount 3=found 4=many 5=rest 6=some -/
def N_find_payments : List Str := ["coins", "filling", "amount", "found", "many", "rest", "some"]
def L_find_payments_0 : CS.S := (.seq (.asg (.nm 5) (.call 0 (.acons (.sl (.var 0) (.int 1) .anil) (.acons (.sl (.var 1) (.int 1) .anil) (.acons (.bin .Sub (.var 2) (.bin .Mult (.var 4) (.ix (.var 0) (.int 0)))) .anil)))) [] true false)
 (.seq (.ext 3 (.lc (.bin .Add (.tup (.acons (.var 4) .anil)) (.var 6)) (.nm 6) (.var 5) .anil [("some", 6)]))
 .done))
def B_find_payments : CS.S := (.seq (.iff (.cmp .Eq (.var 0) (.tup .anil))
 (.seq (.ret (.ife (.cmp .Eq (.var 2) (.int 0)) (.lst (.acons (.tup .anil) .anil)) (.lst .anil)))
 .done)
 .done)
 (.seq (.asg (.nm 3) (.lst .anil) [] true true)
 (.seq (.forr (.nm 4) (.rng (.acons (.bin .Add (.mm false (.ix (.var 1) (.int 0)) (.bin .FloorDiv (.var 2) (.ix (.var 0) (.int 0)))) (.int 1)) .anil)) [] L_find_payments_0)
 (.seq (.retO 3)
 .done))))
def F_find_payments_r0 : Fn := ⟨"find_payments", ["coins", "filling", "amount"], fun _ => .bad, true⟩
@[simp] theorem P_find_payments_r0 : F_find_payments_r0.ps.length = 3 := (rfl)
def T_find_payments_r1 : Tb := ⟨[F_find_payments_r0], consts, excs⟩
def F_find_payments_r1 : Fn := ⟨"find_payments", ["coins", "filling", "amount"], runDef T_find_payments_r1 7 B_find_payments true, true⟩
@[simp] theorem P_find_payments_r1 : F_find_payments_r1.ps.length = 3 := (rfl)
@[simp] theorem T_find_payments_r1_0 : T_find_payments_r1.fns[0]? = some F_find_payments_r0 := (rfl)
theorem S_find_payments_r1 (ds : List CS.D) : F_find_payments_r1.sem ds = (exec T_find_payments_r1 B_find_payments (ds.map (fun d => some (d, false)) ++ List.replicate (7 - ds.length) none)).fin true := rfl
theorem C_find_payments_r1 : chkSs T_find_payments_r1 ⟨N_find_payments, defScope (top 36), fun _ => true⟩ B_find_payments (defBody (top 36)) = true := by decide +kernel
def T_find_payments_r2 : Tb := ⟨[F_find_payments_r1], consts, excs⟩
def F_find_payments_r2 : Fn := ⟨"find_payments", ["coins", "filling", "amount"], runDef T_find_payments_r2 7 B_find_payments true, true⟩
@[simp] theorem P_find_payments_r2 : F_find_payments_r2.ps.length = 3 := (rfl)
@[simp] theorem T_find_payments_r2_0 : T_find_payments_r2.fns[0]? = some F_find_payments_r1 := (rfl)
theorem S_find_payments_r2 (ds : List CS.D) : F_find_payments_r2.sem ds = (exec T_find_payments_r2 B_find_payments (ds.map (fun d => some (d, false)) ++ List.replicate (7 - ds.length) none)).fin true := rfl
theorem C_find_payments_r2 : chkSs T_find_payments_r2 ⟨N_find_payments, defScope (top 36), fun _ => true⟩ B_find_payments (defBody (top 36)) = true := by decide +kernel
def T_find_payments_r3 : Tb := ⟨[F_find_payments_r2], consts, excs⟩
def F_find_payments_r3 : Fn := ⟨"find_payments", ["coins", "filling", "amount"], runDef T_find_payments_r3 7 B_find_payments true, true⟩
@[simp] theorem P_find_payments_r3 : F_find_payments_r3.ps.length = 3 := (rfl)
@[simp] theorem T_find_payments_r3_0 : T_find_payments_r3.fns[0]? = some F_find_payments_r2 := (rfl)
theorem S_find_payments_r3 (ds : List CS.D) : F_find_payments_r3.sem ds = (exec T_find_payments_r3 B_find_payments (ds.map (fun d => some (d, false)) ++ List.replicate (7 - ds.length) none)).fin true := rfl
theorem C_find_payments_r3 : chkSs T_find_payments_r3 ⟨N_find_payments, defScope (top 36), fun _ => true⟩ B_find_payments (defBody (top 36)) = true := by decide +kernel
def T_find_payments_r4 : Tb := ⟨[F_find_payments_r3], consts, excs⟩
def F_find_payments_r4 : Fn := ⟨"find_payments", ["coins", "filling", "amount"], runDef T_find_payments_r4 7 B_find_payments true, true⟩
@[simp] theorem P_find_payments_r4 : F_find_payments_r4.ps.length = 3 := (rfl)
@[simp] theorem T_find_payments_r4_0 : T_find_payments_r4.fns[0]? = some F_find_payments_r3 := (rfl)
theorem S_find_payments_r4 (ds : List CS.D) : F_find_payments_r4.sem ds = (exec T_find_payments_r4 B_find_payments (ds.map (fun d => some (d, false)) ++ List.replicate (7 - ds.length) none)).fin true := rfl
theorem C_find_payments_r4 : chkSs T_find_payments_r4 ⟨N_find_payments, defScope (top 36), fun _ => true⟩ B_find_payments (defBody (top 36)) = true := by decide +kernel
def T_find_payments : Tb := ⟨[F_find_payments_r4], consts, excs⟩
def F_find_payments : Fn := ⟨"find_payments", ["coins", "filling", "amount"], runDef T_find_payments 7 B_find_payments true, true⟩
@[simp] theorem P_find_payments : F_find_payments.ps.length = 3 := (rfl)
@[simp] theorem T_find_payments_0 : T_find_payments.fns[0]? = some F_find_payments_r4 := (rfl)
theorem S_find_payments (ds : List CS.D) : F_find_payments.sem ds = (exec T_find_payments B_find_payments (ds.map (fun d => some (d, false)) ++ List.replicate (7 - ds.length) none)).fin true := rfl
theorem C_find_payments : chkSs T_find_payments ⟨N_find_payments, defScope (top 36), fun _ => true⟩ B_find_payments (defBody (top 36)) = true := by decide +kernel
/-! minus(one, other): 0=one 1=other 2=many 3=less -/
def N_minus : List Str := ["one", "other", "many", "less"]
def B_minus : CS.S := (.seq (.ret (.b1 .tuple (.lc (.bin .Sub (.var 2) (.var 3)) (.tup (.cons (.nm 2) (.cons (.nm 3) .nil))) (.zip (.acons (.var 0) (.acons (.var 1) .anil))) .anil [("many", 2), ("less", 3)])))
 .done)
def T_minus : Tb := ⟨[], consts, excs⟩
def F_minus : Fn := ⟨"minus", ["one", "other"], runDef T_minus 4 B_minus false, false⟩
@[simp] theorem P_minus : F_minus.ps.length = 2 := (rfl)
theorem S_minus (ds : List CS.D) : F_minus.sem ds = (exec T_minus B_minus (ds.map (fun d => some (d, false)) ++ List.replicate (4 - ds.length) none)).fin false := rfl
theorem C_minus : chkSs T_minus ⟨N_minus, defScope (top 37), fun _ => true⟩ B_minus (defBody (top 37)) = true := by decide +kernel
/-! greatest_first(coins, filling, amount): 0=coins 1=filling 2=amount 3=taken 4=rest 5=coin 6=many -/
def N_greatest_first : List Str := ["coins", "filling", "amount", "taken", "rest", "coin", "many"]
def L_greatest_first_0 : CS.S := (.seq (.app 3 (.mm false (.var 6) (.bin .FloorDiv (.var 4) (.var 5))))
 (.seq (.asg (.nm 4) (.bin .Sub (.var 4) (.bin .Mult (.ix (.var 3) (.neg (.int 1))) (.var 5))) [] true false)
 .done))
def B_greatest_first : CS.S := (.seq (.par [(3, true), (4, false)] (.acons (.lst .anil) (.acons (.var 2) .anil)) [])
 (.seq (.forr (.tup (.cons (.nm 5) (.cons (.nm 6) .nil))) (.rev (.lz (.acons (.var 0) (.acons (.var 1) .anil)))) [] L_greatest_first_0)
 (.seq (.ret (.b1 .tuple (.rev (.var 3))))
 .done)))
def T_greatest_first : Tb := ⟨[], consts, excs⟩
def F_greatest_first : Fn := ⟨"greatest_first", ["coins", "filling", "amount"], runDef T_greatest_first 7 B_greatest_first false, false⟩
@[simp] theorem P_greatest_first : F_greatest_first.ps.length = 3 := (rfl)
theorem S_greatest_first (ds : List CS.D) : F_greatest_first.sem ds = (exec T_greatest_first B_greatest_first (ds.map (fun d => some (d, false)) ++ List.replicate (7 - ds.length) none)).fin false := rfl
theorem C_greatest_first : chkSs T_greatest_first ⟨N_greatest_first, defScope (top 38), fun _ => true⟩ B_greatest_first (defBody (top 38)) = true := by decide +kernel
/-! fullest_first(coins, filling, amount): 0=coins 1=filling 2=amount 3=taken 4=rest 5=left 6=rows 7=k 8=coin -/
def N_fullest_first : List Str := ["coins", "filling", "amount", "taken", "rest", "left", "rows", "k", "coin"]
def L_fullest_first_0 : CS.S := (.seq (.asg (.nm 5) (.call 0 (.acons (.var 1) (.acons (.var 3) .anil))) [] true false)
 (.seq (.asg (.nm 6) (.lc (.tup (.acons (.ix (.var 5) (.var 7)) (.acons (.var 8) (.acons (.var 7) .anil)))) (.tup (.cons (.nm 7) (.cons (.nm 8) .nil))) (.enm (.var 0)) (.and (.cmp .LtE (.var 8) (.var 4)) (.cmp .Gt (.ix (.var 5) (.var 7)) (.int 0))) [("k", 7), ("coin", 8)]) [] true false)
 (.seq (.iff (.cmp .Eq (.var 6) (.lst .anil))
 (.seq (.ret (.b1 .tuple (.var 3)))
 .done)
 .done)
 (.seq (.augix 3 (.ix (.b1 .max (.var 6)) (.int 2)) (.int 1))
 (.seq (.asg (.nm 4) (.bin .Sub (.var 4) (.ix (.b1 .max (.var 6)) (.int 1))) [] true false)
 .done)))))
def B_fullest_first : CS.S := (.seq (.par [(3, true), (4, false)] (.acons (.bin .Mult (.lst (.acons (.int 0) .anil)) (.b1 .len (.var 0))) (.acons (.var 2) .anil)) [])
 (.seq (.whil (.bl true) L_fullest_first_0)
 .done))
def T_fullest_first : Tb := ⟨[F_minus], consts, excs⟩
def F_fullest_first : Fn := ⟨"fullest_first", ["coins", "filling", "amount"], runDef T_fullest_first 9 B_fullest_first false, false⟩
@[simp] theorem P_fullest_first : F_fullest_first.ps.length = 3 := (rfl)
@[simp] theorem T_fullest_first_0 : T_fullest_first.fns[0]? = some F_minus := (rfl)
theorem S_fullest_first (ds : List CS.D) : F_fullest_first.sem ds = (exec T_fullest_first B_fullest_first (ds.map (fun d => some (d, false)) ++ List.replicate (9 - ds.length) none)).fin false := rfl
theorem C_fullest_first : chkSs T_fullest_first ⟨N_fullest_first, defScope (top 39), fun _ => true⟩ B_fullest_first (defBody (top 39)) = true := by decide +kernel
/-! by_rule(machine, filling, amount): 0=machine 1=filling 2=amount 3=change 4=rows 5=some 6=found -/
def N_by_rule : List Str := ["machine", "filling", "amount", "change", "rows", "some", "found"]
def B_by_rule : CS.S := (.seq (.asg (.nm 3) (.ix (.ix (.var 0) (.int 4)) (.int 1)) [] true false)
 (.seq (.iff (.cmp .Eq (.var 3) (.gc 3))
 (.seq (.asg (.nm 4) (.lc (.tup (.acons (.b1 .sum (.var 5)) (.acons (.var 5) .anil))) (.nm 5) (.call 3 (.acons (.ix (.var 0) (.int 0)) (.acons (.var 1) (.acons (.var 2) .anil)))) .anil [("some", 5)]) [] true false)
 (.seq (.ret (.ife (.cmp .NotEq (.var 4) (.lst .anil)) (.ix (.b1 .min (.var 4)) (.int 1)) .non))
 .done))
 .done)
 (.seq (.asg (.nm 6) (.callIf (.cmp .Eq (.var 3) (.gc 2)) 1 2 (.acons (.ix (.var 0) (.int 0)) (.acons (.var 1) (.acons (.var 2) .anil)))) [] true false)
 (.seq (.ret (.ife (.cmp .Eq (.call 0 (.acons (.var 0) (.acons (.var 6) .anil))) (.var 2)) (.var 6) .non))
 .done))))
def T_by_rule : Tb := ⟨[F_find_worth, F_greatest_first, F_fullest_first, F_find_payments], consts, excs⟩
def F_by_rule : Fn := ⟨"by_rule", ["machine", "filling", "amount"], runDef T_by_rule 7 B_by_rule false, false⟩
@[simp] theorem P_by_rule : F_by_rule.ps.length = 3 := (rfl)
@[simp] theorem T_by_rule_0 : T_by_rule.fns[0]? = some F_find_worth := (rfl)
@[simp] theorem T_by_rule_1 : T_by_rule.fns[1]? = some F_greatest_first := (rfl)
@[simp] theorem T_by_rule_2 : T_by_rule.fns[2]? = some F_fullest_first := (rfl)
@[simp] theorem T_by_rule_3 : T_by_rule.fns[3]? = some F_find_payments := (rfl)
@[simp] theorem T_by_rule_c : T_by_rule.cons = consts := (rfl)
theorem S_by_rule (ds : List CS.D) : F_by_rule.sem ds = (exec T_by_rule B_by_rule (ds.map (fun d => some (d, false)) ++ List.replicate (7 - ds.length) none)).fin false := rfl
theorem C_by_rule : chkSs T_by_rule ⟨N_by_rule, defScope (top 40), fun _ => true⟩ B_by_rule (defBody (top 40)) = true := by decide +kernel
/-! less_than(machine, filling, amount): 0=machine 1=filling 2=amount 3=found 4=lesser 5=some -/
def N_less_than : List Str := ["machine", "filling", "amount", "found", "lesser", "some"]
def B_less_than : CS.S := (.seq (.asg (.nm 3) (.lc (.call 0 (.acons (.var 0) (.acons (.var 1) (.acons (.var 4) .anil)))) (.nm 4) (.rng (.acons (.var 2) .anil)) .anil [("lesser", 4)]) [] true false)
 (.seq (.ret (.ix (.lc (.var 5) (.nm 5) (.var 3) (.cmp .IsNot (.var 5) .non) [("some", 5)]) (.neg (.int 1))))
 .done))
def T_less_than : Tb := ⟨[F_by_rule], consts, excs⟩
def F_less_than : Fn := ⟨"less_than", ["machine", "filling", "amount"], runDef T_less_than 6 B_less_than false, false⟩
@[simp] theorem P_less_than : F_less_than.ps.length = 3 := (rfl)
@[simp] theorem T_less_than_0 : T_less_than.fns[0]? = some F_by_rule := (rfl)
theorem S_less_than (ds : List CS.D) : F_less_than.sem ds = (exec T_less_than B_less_than (ds.map (fun d => some (d, false)) ++ List.replicate (6 - ds.length) none)).fin false := rfl
theorem C_less_than : chkSs T_less_than ⟨N_less_than, defScope (top 41), fun _ => true⟩ B_less_than (defBody (top 41)) = true := by decide +kernel
/-! find_paid(machine, filling, due): 0=machine 1=filling 2=due 3=exact 4=greater 5=known 6=amount 7=some -/
def N_find_paid : List Str := ["machine", "filling", "due", "exact", "greater", "known", "amount", "some"]
def B_find_paid : CS.S := (.seq (.asg (.nm 3) (.call 2 (.acons (.var 0) (.acons (.var 1) (.acons (.var 2) .anil)))) [] true false)
 (.seq (.iff (.or (.cmp .IsNot (.var 3) .non) (.cmp .Eq (.ix (.ix (.var 0) (.int 4)) (.int 2)) (.gc 5)))
 (.seq (.ret (.var 3))
 .done)
 .done)
 (.seq (.iff (.cmp .Eq (.ix (.ix (.var 0) (.int 4)) (.int 2)) (.gc 8))
 (.seq (.asg (.nm 4) (.lc (.call 2 (.acons (.var 0) (.acons (.var 1) (.acons (.var 6) .anil)))) (.nm 6) (.rng (.acons (.bin .Add (.var 2) (.int 1)) (.acons (.bin .Add (.call 1 (.acons (.var 0) (.acons (.var 1) .anil))) (.int 1)) .anil))) .anil [("amount", 6)]) [] true false)
 (.seq (.asg (.nm 5) (.lc (.var 7) (.nm 7) (.var 4) (.cmp .IsNot (.var 7) .non) [("some", 7)]) [] true false)
 (.seq (.iff (.cmp .NotEq (.var 5) (.lst .anil))
 (.seq (.ret (.ix (.var 5) (.int 0)))
 .done)
 .done)
 .done)))
 .done)
 (.seq (.ret (.call 0 (.acons (.var 0) (.acons (.var 1) (.acons (.var 2) .anil)))))
 .done))))
def T_find_paid : Tb := ⟨[F_less_than, F_find_worth, F_by_rule], consts, excs⟩
def F_find_paid : Fn := ⟨"find_paid", ["machine", "filling", "due"], runDef T_find_paid 8 B_find_paid false, false⟩
@[simp] theorem P_find_paid : F_find_paid.ps.length = 3 := (rfl)
@[simp] theorem T_find_paid_0 : T_find_paid.fns[0]? = some F_less_than := (rfl)
@[simp] theorem T_find_paid_1 : T_find_paid.fns[1]? = some F_find_worth := (rfl)
@[simp] theorem T_find_paid_2 : T_find_paid.fns[2]? = some F_by_rule := (rfl)
@[simp] theorem T_find_paid_c : T_find_paid.cons = consts := (rfl)
theorem S_find_paid (ds : List CS.D) : F_find_paid.sem ds = (exec T_find_paid B_find_paid (ds.map (fun d => some (d, false)) ++ List.replicate (8 - ds.length) none)).fin false := rfl
theorem C_find_paid : chkSs T_find_paid ⟨N_find_paid, defScope (top 42), fun _ => true⟩ B_find_paid (defBody (top 42)) = true := by decide +kernel
/-! check_paying(machine, filling): 0=machine 1=filling -/
def N_check_paying : List Str := ["machine", "filling"]
def B_check_paying : CS.S := (.seq (.drop (.call 1 (.acons (.var 0) .anil)))
 (.seq (.drop (.call 0 (.acons (.var 0) (.acons (.var 1) .anil))))
 .done))
def T_check_paying : Tb := ⟨[F_check_filling, F_check_machine], consts, excs⟩
def F_check_paying : Fn := ⟨"check_paying", ["machine", "filling"], runDef T_check_paying 2 B_check_paying false, false⟩
@[simp] theorem P_check_paying : F_check_paying.ps.length = 2 := (rfl)
@[simp] theorem T_check_paying_0 : T_check_paying.fns[0]? = some F_check_filling := (rfl)
@[simp] theorem T_check_paying_1 : T_check_paying.fns[1]? = some F_check_machine := (rfl)
theorem S_check_paying (ds : List CS.D) : F_check_paying.sem ds = (exec T_check_paying B_check_paying (ds.map (fun d => some (d, false)) ++ List.replicate (2 - ds.length) none)).fin false := rfl
theorem C_check_paying : chkSs T_check_paying ⟨N_check_paying, defScope (top 43), fun _ => true⟩ B_check_paying (defBody (top 43)) = true := by decide +kernel
/-! check_amount(value): 0=value -/
def N_check_amount : List Str := ["value"]
def B_check_amount : CS.S := (.seq (.iff (.not (.call 0 (.acons (.var 0) (.acons (.int 0) (.acons (.gc 13) .anil)))))
 (.seq (.rais 5 "the value is not an integer from 0 to 40")
 .done)
 .done)
 .done)
def T_check_amount : Tb := ⟨[F_is_int], consts, excs⟩
def F_check_amount : Fn := ⟨"check_amount", ["value"], runDef T_check_amount 1 B_check_amount false, false⟩
@[simp] theorem P_check_amount : F_check_amount.ps.length = 1 := (rfl)
@[simp] theorem T_check_amount_0 : T_check_amount.fns[0]? = some F_is_int := (rfl)
@[simp] theorem T_check_amount_c : T_check_amount.cons = consts := (rfl)
theorem S_check_amount (ds : List CS.D) : F_check_amount.sem ds = (exec T_check_amount B_check_amount (ds.map (fun d => some (d, false)) ++ List.replicate (1 - ds.length) none)).fin false := rfl
theorem C_check_amount : chkSs T_check_amount ⟨N_check_amount, defScope (top 44), fun _ => true⟩ B_check_amount (defBody (top 44)) = true := by decide +kernel
/-! payments(machine, filling, amount): 0=machine 1=filling 2=amount -/
def N_payments : List Str := ["machine", "filling", "amount"]
def B_payments : CS.S := (.seq (.drop (.call 2 (.acons (.var 0) (.acons (.var 1) .anil))))
 (.seq (.drop (.call 1 (.acons (.var 2) .anil)))
 (.seq (.ret (.call 0 (.acons (.ix (.var 0) (.int 0)) (.acons (.var 1) (.acons (.var 2) .anil)))))
 .done)))
def T_payments : Tb := ⟨[F_find_payments, F_check_amount, F_check_paying], consts, excs⟩
def F_payments : Fn := ⟨"payments", ["machine", "filling", "amount"], runDef T_payments 3 B_payments true, true⟩
@[simp] theorem P_payments : F_payments.ps.length = 3 := (rfl)
@[simp] theorem T_payments_0 : T_payments.fns[0]? = some F_find_payments := (rfl)
@[simp] theorem T_payments_1 : T_payments.fns[1]? = some F_check_amount := (rfl)
@[simp] theorem T_payments_2 : T_payments.fns[2]? = some F_check_paying := (rfl)
theorem S_payments (ds : List CS.D) : F_payments.sem ds = (exec T_payments B_payments (ds.map (fun d => some (d, false)) ++ List.replicate (3 - ds.length) none)).fin true := rfl
theorem C_payments : chkSs T_payments ⟨N_payments, defScope (top 45), fun _ => true⟩ B_payments (defBody (top 45)) = true := by decide +kernel
/-! payment(machine, filling, amount): 0=machine 1=filling 2=amount -/
def N_payment : List Str := ["machine", "filling", "amount"]
def B_payment : CS.S := (.seq (.drop (.call 2 (.acons (.var 0) (.acons (.var 1) .anil))))
 (.seq (.drop (.call 1 (.acons (.var 2) .anil)))
 (.seq (.ret (.call 0 (.acons (.var 0) (.acons (.var 1) (.acons (.var 2) .anil)))))
 .done)))
def T_payment : Tb := ⟨[F_by_rule, F_check_amount, F_check_paying], consts, excs⟩
def F_payment : Fn := ⟨"payment", ["machine", "filling", "amount"], runDef T_payment 3 B_payment false, false⟩
@[simp] theorem P_payment : F_payment.ps.length = 3 := (rfl)
@[simp] theorem T_payment_0 : T_payment.fns[0]? = some F_by_rule := (rfl)
@[simp] theorem T_payment_1 : T_payment.fns[1]? = some F_check_amount := (rfl)
@[simp] theorem T_payment_2 : T_payment.fns[2]? = some F_check_paying := (rfl)
theorem S_payment (ds : List CS.D) : F_payment.sem ds = (exec T_payment B_payment (ds.map (fun d => some (d, false)) ++ List.replicate (3 - ds.length) none)).fin false := rfl
theorem C_payment : chkSs T_payment ⟨N_payment, defScope (top 46), fun _ => true⟩ B_payment (defBody (top 46)) = true := by decide +kernel
/-! payable(machine, filling): 0=machine 1=filling 2=amount -/
def N_payable : List Str := ["machine", "filling", "amount"]
def B_payable : CS.S := (.seq (.drop (.call 1 (.acons (.var 0) (.acons (.var 1) .anil))))
 (.seq (.ret (.lc (.var 2) (.nm 2) (.rng (.acons (.bin .Add (.gc 13) (.int 1)) .anil)) (.cmp .IsNot (.call 0 (.acons (.var 0) (.acons (.var 1) (.acons (.var 2) .anil)))) .non) [("amount", 2)]))
 .done))
def T_payable : Tb := ⟨[F_by_rule, F_check_paying], consts, excs⟩
def F_payable : Fn := ⟨"payable", ["machine", "filling"], runDef T_payable 3 B_payable true, true⟩
@[simp] theorem P_payable : F_payable.ps.length = 2 := (rfl)
@[simp] theorem T_payable_0 : T_payable.fns[0]? = some F_by_rule := (rfl)
@[simp] theorem T_payable_1 : T_payable.fns[1]? = some F_check_paying := (rfl)
@[simp] theorem T_payable_c : T_payable.cons = consts := (rfl)
theorem S_payable (ds : List CS.D) : F_payable.sem ds = (exec T_payable B_payable (ds.map (fun d => some (d, false)) ++ List.replicate (3 - ds.length) none)).fin true := rfl
theorem C_payable : chkSs T_payable ⟨N_payable, defScope (top 47), fun _ => true⟩ B_payable (defBody (top 47)) = true := by decide +kernel
/-! paid(machine, filling, amount): 0=machine 1=filling 2=amount -/
def N_paid : List Str := ["machine", "filling", "amount"]
def B_paid : CS.S := (.seq (.drop (.call 2 (.acons (.var 0) (.acons (.var 1) .anil))))
 (.seq (.drop (.call 1 (.acons (.var 2) .anil)))
 (.seq (.ret (.call 0 (.acons (.var 0) (.acons (.var 1) (.acons (.var 2) .anil)))))
 .done)))
def T_paid : Tb := ⟨[F_find_paid, F_check_amount, F_check_paying], consts, excs⟩
def F_paid : Fn := ⟨"paid", ["machine", "filling", "amount"], runDef T_paid 3 B_paid false, false⟩
@[simp] theorem P_paid : F_paid.ps.length = 3 := (rfl)
@[simp] theorem T_paid_0 : T_paid.fns[0]? = some F_find_paid := (rfl)
@[simp] theorem T_paid_1 : T_paid.fns[1]? = some F_check_amount := (rfl)
@[simp] theorem T_paid_2 : T_paid.fns[2]? = some F_check_paying := (rfl)
theorem S_paid (ds : List CS.D) : F_paid.sem ds = (exec T_paid B_paid (ds.map (fun d => some (d, false)) ++ List.replicate (3 - ds.length) none)).fin false := rfl
theorem C_paid : chkSs T_paid ⟨N_paid, defScope (top 48), fun _ => true⟩ B_paid (defBody (top 48)) = true := by decide +kernel
/-! _law_drawn(script, k, many): 0=script 1=k 2=many 3=cell 4=turn 5=rest -/
def N__law_drawn : List Str := ["script", "k", "many", "cell", "turn", "rest"]
def L__law_drawn_0 : CS.S := (.seq (.asg (.nm 5) (.bin .FloorDiv (.var 5) (.int 1000000)) [] true false)
 (.seq (.asg (.nm 4) (.bin .Sub (.var 4) (.int 1)) [] true false)
 .done))
def B__law_drawn : CS.S := (.seq (.asg (.nm 3) (.bin .Mult (.int 7) (.var 1)) [] true false)
 (.seq (.iff (.cmp .NotEq (.var 0) (.lst .anil))
 (.seq (.asg (.nm 3) (.ix (.var 0) (.bin .Mod (.b1 .int (.var 1)) (.b1 .len (.var 0)))) [] true false)
 (.seq (.asg (.nm 4) (.bin .FloorDiv (.var 1) (.b1 .len (.var 0))) [] true false)
 (.seq (.iff (.and (.cmp .GtE (.var 3) (.bin .Pow (.int 10) (.int 18))) (.cmp .Lt (.var 4) (.int 60)))
 (.seq (.asg (.nm 5) (.bin .FloorDiv (.var 3) (.bin .Pow (.int 10) (.int 18))) [] true false)
 (.seq (.whil (.and (.cmp .Gt (.var 5) (.int 0)) (.cmp .Gt (.var 4) (.int 0))) L__law_drawn_0)
 (.seq (.iff (.cmp .Gt (.var 5) (.int 0))
 (.seq (.ret (.bin .Mod (.b1 .int (.bin .Mod (.b1 .int (.var 5)) (.int 1000000))) (.var 2)))
 .done)
 .done)
 .done)))
 .done)
 (.seq (.asg (.nm 3) (.bin .Add (.var 3) (.bin .Mult (.int 6553) (.bin .FloorDiv (.var 1) (.b1 .len (.var 0))))) [] true false)
 .done))))
 .done)
 (.seq (.asg (.nm 3) (.bin .Mod (.b1 .int (.bin .Add (.bin .Mult (.bin .Mod (.b1 .int (.var 3)) (.int 2147483563)) (.int 69069)) (.bin .Mult (.int 104723) (.bin .Add (.var 1) (.int 1))))) (.int 2147483563)) [] true false)
 (.seq (.asg (.nm 3) (.bin .Mod (.b1 .int (.bin .Add (.bin .Mult (.var 3) (.var 3)) (.bin .FloorDiv (.var 3) (.int 3)))) (.int 2147483399)) [] true false)
 (.seq (.ret (.bin .Mod (.b1 .int (.bin .FloorDiv (.bin .Mod (.b1 .int (.bin .Add (.bin .Mult (.var 3) (.var 3)) (.bin .FloorDiv (.var 3) (.int 7)))) (.int 2147483647)) (.int 11))) (.var 2)))
 .done)))))
def T__law_drawn : Tb := ⟨[], consts, excs⟩
def F__law_drawn : Fn := ⟨"_law_drawn", ["script", "k", "many"], runDef T__law_drawn 6 B__law_drawn false, false⟩
@[simp] theorem P__law_drawn : F__law_drawn.ps.length = 3 := (rfl)
theorem S__law_drawn (ds : List CS.D) : F__law_drawn.sem ds = (exec T__law_drawn B__law_drawn (ds.map (fun d => some (d, false)) ++ List.replicate (6 - ds.length) none)).fin false := rfl
theorem C__law_drawn : chkSs T__law_drawn ⟨N__law_drawn, defScope (top 50), fun _ => true⟩ B__law_drawn (defBody (top 50)) = true := by decide +kernel
/-! _law_raw(script, at): 0=script 1=at 2=coins 3=rooms 4=k 5=wares 6=cancel 7=change 8=program 9=lamp -/
def N__law_raw : List Str := ["script", "at", "coins", "rooms", "k", "wares", "cancel", "change", "program", "lamp"]
def B__law_raw : CS.S := (.seq (.asg (.nm 2) (.ix (.lst (.acons (.tup (.acons (.int 1) (.acons (.int 2) .anil))) (.acons (.tup (.acons (.int 1) (.acons (.int 3) .anil))) (.acons (.tup (.acons (.int 2) (.acons (.int 3) .anil))) (.acons (.tup (.acons (.int 2) .anil)) (.acons (.tup (.acons (.int 1) (.acons (.int 2) .anil))) (.acons (.tup (.acons (.int 2) (.acons (.int 5) .anil))) .anil))))))) (.call 0 (.acons (.var 0) (.acons (.var 1) (.acons (.int 6) .anil))))) [] true false)
 (.seq (.asg (.nm 3) (.b1 .tuple (.lc (.call 0 (.acons (.var 0) (.acons (.bin .Add (.bin .Add (.var 1) (.int 1)) (.var 4)) (.acons (.int 3) .anil)))) (.nm 4) (.rng (.acons (.b1 .len (.var 2)) .anil)) .anil [("k", 4)])) [] true false)
 (.seq (.asg (.nm 5) (.ix (.lst (.acons (.tup (.acons (.int 3) .anil)) (.acons (.tup (.acons (.int 4) .anil)) (.acons (.tup (.acons (.int 2) (.acons (.int 5) .anil))) (.acons (.tup (.acons (.int 1) .anil)) (.acons (.tup (.acons (.int 5) .anil)) (.acons (.tup (.acons (.int 3) (.acons (.int 4) .anil))) .anil))))))) (.call 0 (.acons (.var 0) (.acons (.bin .Add (.var 1) (.int 4)) (.acons (.int 6) .anil))))) [] true false)
 (.seq (.asg (.nm 6) (.ix (.lst (.acons (.str "any") (.acons (.str "same") .anil))) (.call 0 (.acons (.var 0) (.acons (.bin .Add (.var 1) (.int 5)) (.acons (.int 2) .anil))))) [] true false)
 (.seq (.asg (.nm 7) (.ix (.lst (.acons (.str "great") (.acons (.str "few") (.acons (.str "full") .anil)))) (.call 0 (.acons (.var 0) (.acons (.bin .Add (.var 1) (.int 6)) (.acons (.int 3) .anil))))) [] true false)
 (.seq (.asg (.nm 8) (.tup (.acons (.var 6) (.acons (.var 7) (.acons (.ix (.lst (.acons (.str "refuse") (.acons (.str "short") (.acons (.str "keep") (.acons (.str "over") .anil))))) (.call 0 (.acons (.var 0) (.acons (.bin .Add (.var 1) (.int 7)) (.acons (.int 4) .anil))))) .anil)))) [] true false)
 (.seq (.asg (.nm 9) (.b1 .tuple (.lc (.call 0 (.acons (.var 0) (.acons (.bin .Add (.bin .Add (.var 1) (.int 8)) (.var 4)) (.acons (.int 3) .anil)))) (.nm 4) (.rng (.acons (.b1 .len (.var 2)) .anil)) .anil [("k", 4)])) [] true false)
 (.seq (.ret (.tup (.acons (.var 2) (.acons (.var 3) (.acons (.var 5) (.acons (.bin .Add (.ix (.var 5) (.neg (.int 1))) (.call 0 (.acons (.var 0) (.acons (.bin .Add (.var 1) (.int 11)) (.acons (.int 3) .anil))))) (.acons (.var 8) (.acons (.var 9) .anil))))))))
 .done))))))))
def T__law_raw : Tb := ⟨[F__law_drawn], consts, excs⟩
def F__law_raw : Fn := ⟨"_law_raw", ["script", "at"], runDef T__law_raw 10 B__law_raw false, false⟩
@[simp] theorem P__law_raw : F__law_raw.ps.length = 2 := (rfl)
@[simp] theorem T__law_raw_0 : T__law_raw.fns[0]? = some F__law_drawn := (rfl)
theorem S__law_raw (ds : List CS.D) : F__law_raw.sem ds = (exec T__law_raw B__law_raw (ds.map (fun d => some (d, false)) ++ List.replicate (10 - ds.length) none)).fin false := rfl
theorem C__law_raw : chkSs T__law_raw ⟨N__law_raw, defScope (top 51), fun _ => true⟩ B__law_raw (defBody (top 51)) = true := by decide +kernel
/-! _law_filling(script, at, machine): 0=script 1=at 2=machine 3=k 4=room -/
def N__law_filling : List Str := ["script", "at", "machine", "k", "room"]
def B__law_filling : CS.S := (.seq (.ret (.b1 .tuple (.lc (.call 0 (.acons (.var 0) (.acons (.bin .Add (.var 1) (.var 3)) (.acons (.bin .Add (.var 4) (.int 1)) .anil)))) (.tup (.cons (.nm 3) (.cons (.nm 4) .nil))) (.enm (.ix (.var 2) (.int 1))) .anil [("k", 3), ("room", 4)])))
 .done)
def T__law_filling : Tb := ⟨[F__law_drawn], consts, excs⟩
def F__law_filling : Fn := ⟨"_law_filling", ["script", "at", "machine"], runDef T__law_filling 5 B__law_filling false, false⟩
@[simp] theorem P__law_filling : F__law_filling.ps.length = 3 := (rfl)
@[simp] theorem T__law_filling_0 : T__law_filling.fns[0]? = some F__law_drawn := (rfl)
theorem S__law_filling (ds : List CS.D) : F__law_filling.sem ds = (exec T__law_filling B__law_filling (ds.map (fun d => some (d, false)) ++ List.replicate (5 - ds.length) none)).fin false := rfl
theorem C__law_filling : chkSs T__law_filling ⟨N__law_filling, defScope (top 52), fun _ => true⟩ B__law_filling (defBody (top 52)) = true := by decide +kernel
/-! _law_unable(machine, filling, amount, some): 0=machine 1=filling 2=amount 3=some 4=word 5=one 6=what 7=fits 8=due 9=above 10=below 11=n -/
def N__law_unable : List Str := ["machine", "filling", "amount", "some", "word", "one", "what", "fits", "due", "above", "below", "n"]
def L__law_unable_0 : CS.S := (.seq (.asg (.nm 5) (.call 4 (.acons (.var 0) (.acons (.bin .Add (.sl (.ix (.var 0) (.int 4)) .anil (.int 2)) (.tup (.acons (.var 4) .anil))) .anil))) [] true false)
 (.seq (.par [(6, false), (7, false)] (.acons (.call 3 (.acons (.var 5) (.acons (.var 1) (.acons (.var 2) .anil)))) (.acons (.call 2 (.acons (.var 5) (.acons (.var 1) .anil))) .anil)) [])
 (.seq (.iff (.or (.cmp .IsNot (.var 3) .non) (.cmp .Eq (.var 4) (.str "refuse")))
 (.seq (.iff (.cmp .NotEq (.var 6) (.var 3))
 (.seq (.ret (.bl false))
 .done)
 .done)
 .done)
 (.seq (.par [(9, false), (10, false)] (.acons (.lc (.var 11) (.nm 11) (.var 7) (.cmp .Gt (.var 11) (.var 2)) [("n", 11)]) (.acons (.lc (.var 11) (.nm 11) (.var 7) (.cmp .Lt (.var 11) (.var 2)) [("n", 11)]) .anil)) [])
 (.seq (.asg (.nm 8) (.ife (.and (.cmp .Eq (.var 4) (.str "over")) (.cmp .NotEq (.var 9) (.lst .anil))) (.ix (.var 9) (.int 0)) (.ix (.var 10) (.neg (.int 1)))) [] true false)
 (.seq (.iff (.or (.cmp .NotEq (.call 0 (.acons (.var 5) (.acons (.var 6) .anil))) (.var 8)) (.cmp .NotEq (.var 6) (.call 1 (.acons (.var 5) (.acons (.var 1) (.acons (.var 8) .anil))))))
 (.seq (.ret (.bl false))
 .done)
 .done)
 .done))))
 .done)))
def B__law_unable : CS.S := (.seq (.forr (.nm 4) (.tup (.acons (.str "refuse") (.acons (.str "short") (.acons (.str "keep") (.acons (.str "over") .anil))))) [] L__law_unable_0)
 (.seq (.ret (.bl true))
 .done))
def T__law_unable : Tb := ⟨[F_worth, F_payment, F_payable, F_paid, F_with_program], consts, excs⟩
def F__law_unable : Fn := ⟨"_law_unable", ["machine", "filling", "amount", "some"], runDef T__law_unable 12 B__law_unable false, false⟩
@[simp] theorem P__law_unable : F__law_unable.ps.length = 4 := (rfl)
@[simp] theorem T__law_unable_0 : T__law_unable.fns[0]? = some F_worth := (rfl)
@[simp] theorem T__law_unable_1 : T__law_unable.fns[1]? = some F_payment := (rfl)
@[simp] theorem T__law_unable_2 : T__law_unable.fns[2]? = some F_payable := (rfl)
@[simp] theorem T__law_unable_3 : T__law_unable.fns[3]? = some F_paid := (rfl)
@[simp] theorem T__law_unable_4 : T__law_unable.fns[4]? = some F_with_program := (rfl)
theorem S__law_unable (ds : List CS.D) : F__law_unable.sem ds = (exec T__law_unable B__law_unable (ds.map (fun d => some (d, false)) ++ List.replicate (12 - ds.length) none)).fin false := rfl
theorem C__law_unable : chkSs T__law_unable ⟨N__law_unable, defScope (top 53), fun _ => true⟩ B__law_unable (defBody (top 53)) = true := by decide +kernel
/-! law(script): 0=script 1=machine 2=filling 3=amount 4=change 5=every 6=program 7=one 8=some 9=row 10=n 11=many -/
def N_law : List Str := ["script", "machine", "filling", "amount", "change", "every", "program", "one", "some", "row", "n", "many"]
def L_law_0 : CS.S := (.seq (.asg (.nm 7) (.call 3 (.acons (.var 1) (.acons (.tup (.acons (.ix (.var 6) (.int 0)) (.acons (.var 4) (.acons (.ix (.var 6) (.int 2)) .anil)))) .anil))) [] true false)
 (.seq (.asg (.nm 8) (.call 0 (.acons (.var 7) (.acons (.var 2) (.acons (.var 3) .anil)))) [] true false)
 (.seq (.iff (.cmp .NotEq (.cmp .IsNot (.var 8) .non) (.cmp .In (.var 3) (.call 1 (.acons (.var 7) (.acons (.var 2) .anil)))))
 (.seq (.ret (.bl false))
 .done)
 .done)
 (.seq (.iff (.and (.cmp .IsNot (.var 8) .non) (.cmp .NotIn (.var 8) (.var 5)))
 (.seq (.ret (.bl false))
 .done)
 .done)
 (.seq (.iff (.and (.cmp .Eq (.var 4) (.str "few")) (.and (.cmp .IsNot (.var 8) .non) (.cmp .NotEq (.b1 .sum (.var 8)) (.b1 .min (.lc (.b1 .sum (.var 9)) (.nm 9) (.var 5) .anil [("row", 9)])))))
 (.seq (.ret (.bl false))
 .done)
 .done)
 (.seq (.iff (.and (.or (.cmp .Eq (.var 4) (.str "few")) (.cmp .Eq (.b1 .len (.var 2)) (.int 1))) (.cmp .NotEq (.cmp .Is (.var 8) .non) (.cmp .Eq (.var 5) (.lst .anil))))
 (.seq (.ret (.bl false))
 .done)
 .done)
 (.seq (.iff (.not (.call 2 (.acons (.var 7) (.acons (.var 2) (.acons (.var 3) (.acons (.var 8) .anil))))))
 (.seq (.ret (.bl false))
 .done)
 .done)
 .done)))))))
def L_law_1 : CS.S := (.seq (.par [(5, false), (6, false)] (.acons (.call 5 (.acons (.var 1) (.acons (.var 2) (.acons (.var 3) .anil)))) (.acons (.ix (.var 1) (.int 4)) .anil)) [])
 (.seq (.iff (.cmp .NotEq (.var 5) (.sset (.var 5)))
 (.seq (.ret (.bl false))
 .done)
 .done)
 (.seq (.iff (.cmp .NotEq (.lc (.var 8) (.nm 8) (.var 5) (.cmp .NotEq (.call 4 (.acons (.var 1) (.acons (.var 8) .anil))) (.var 3)) [("some", 8)]) (.lst .anil))
 (.seq (.ret (.bl false))
 .done)
 .done)
 (.seq (.iff (.cmp .NotEq (.lc (.var 8) (.nm 8) (.var 5) (.cmp .NotEq (.lc (.var 10) (.tup (.cons (.nm 10) (.cons (.nm 11) .nil))) (.enm (.var 8)) (.cmp .Gt (.var 11) (.ix (.var 2) (.var 10))) [("n", 10), ("many", 11)]) (.lst .anil)) [("some", 8)]) (.lst .anil))
 (.seq (.ret (.bl false))
 .done)
 .done)
 (.seq (.forr (.nm 4) (.tup (.acons (.str "great") (.acons (.str "few") (.acons (.str "full") .anil)))) [] L_law_0)
 .done)))))
def B_law : CS.S := (.seq (.asg (.nm 1) (.call 7 (.acons (.var 0) (.acons (.int 10) .anil))) [] true false)
 (.seq (.asg (.nm 2) (.call 6 (.acons (.var 0) (.acons (.int 30) (.acons (.var 1) .anil)))) [] true false)
 (.seq (.forr (.nm 3) (.rng (.acons (.int 8) .anil)) [] L_law_1)
 (.seq (.iff (.cmp .NotEq (.ix (.call 1 (.acons (.var 1) (.acons (.var 2) .anil))) (.int 0)) (.int 0))
 (.seq (.ret (.bl false))
 .done)
 .done)
 (.seq (.ret (.cmp .Eq (.call 0 (.acons (.var 1) (.acons (.var 2) (.acons (.int 0) .anil)))) (.bin .Mult (.tup (.acons (.int 0) .anil)) (.b1 .len (.var 2)))))
 .done)))))
def T_law : Tb := ⟨[F_payment, F_payable, F__law_unable, F_with_program, F_worth, F_payments, F__law_filling, F__law_raw], consts, excs⟩
def F_law : Fn := ⟨"law", ["script"], runDef T_law 12 B_law false, false⟩
@[simp] theorem P_law : F_law.ps.length = 1 := (rfl)
@[simp] theorem T_law_0 : T_law.fns[0]? = some F_payment := (rfl)
@[simp] theorem T_law_1 : T_law.fns[1]? = some F_payable := (rfl)
@[simp] theorem T_law_2 : T_law.fns[2]? = some F__law_unable := (rfl)
@[simp] theorem T_law_3 : T_law.fns[3]? = some F_with_program := (rfl)
@[simp] theorem T_law_4 : T_law.fns[4]? = some F_worth := (rfl)
@[simp] theorem T_law_5 : T_law.fns[5]? = some F_payments := (rfl)
@[simp] theorem T_law_6 : T_law.fns[6]? = some F__law_filling := (rfl)
@[simp] theorem T_law_7 : T_law.fns[7]? = some F__law_raw := (rfl)
theorem S_law (ds : List CS.D) : F_law.sem ds = (exec T_law B_law (ds.map (fun d => some (d, false)) ++ List.replicate (12 - ds.length) none)).fin false := rfl
theorem C_law : chkSs T_law ⟨N_law, defScope (top 54), fun _ => true⟩ B_law (defBody (top 54)) = true := by decide +kernel
end LW

/-! paying, the defs of the program as plain functions -/
namespace LW
open CS
theorem zip_ints : ∀ cs s : List Int, zipL (cs.map .int) (s.map .int) = (cs.zip s).map fun p => D.tup [.int p.1, .int p.2]
  | [], _ => by simp [zipL]
  | _ :: _, [] => by simp [zipL]
  | c :: cs, x :: s => by simp [zipL, zip_ints cs s]
theorem lcGo_mapA {α : Type} {f : D → Res (Option D)} {h g : α → D} : ∀ {xs : List α}, (∀ x ∈ xs, f (h x) = .val (some (g x))) → lcGo f (xs.map h) = .val (xs.map g)
  | [], _ => rfl
  | x :: xs, e => by
    have h1 := e x (by simp)
    have h2 := lcGo_mapA (f := f) (h := h) (g := g) (xs := xs) fun y hy => e y (by simp [hy])
    simp only [List.map_cons, lcGo, h1, h2, bind_val]
theorem lcGo_filA {α : Type} {f : D → Res (Option D)} {p : α → Bool} {h g : α → D} : ∀ {xs : List α}, (∀ x ∈ xs, f (h x) = .val (if p x then some (g x) else none)) → lcGo f (xs.map h) = .val ((xs.filter p).map g)
  | [], _ => rfl
  | x :: xs, e => by
    have h1 := e x (by simp)
    have h2 := lcGo_filA (f := f) (p := p) (h := h) (g := g) (xs := xs) fun y hy => e y (by simp [hy])
    simp only [List.map_cons, lcGo, h1, h2, bind_val]
    cases hp : p x <;> simp [hp]
theorem dot_zip : ∀ cs s : List Int, ((cs.zip s).map fun p => p.1 * p.2).sum = dotI cs s
  | [], _ => by simp [dotI]
  | _ :: _, [] => by simp [dotI]
  | c :: cs, x :: s => by simp [dotI, dot_zip cs s]
/-- coins as the machines have them -/
structure Coins (cs : List Int) : Prop where
  pos : ∀ c ∈ cs, 0 < c
  top : ∀ c ∈ cs, c ≤ 20
  asc : cs.Pairwise (· < ·)
  len : cs.length ≤ 3
theorem mul_coin {c : Int} (h1 : 0 < c) (h2 : c ≤ 20) (x : Int) : mulOk c x = true := mul_lit c x ⟨by omega, by omega⟩
theorem mul_coin2 {c : Int} (h1 : 0 < c) (h2 : c ≤ 20) (x : Int) : mulOk x c = true := mul_lit2 c x ⟨by omega, by omega⟩
theorem find_worth_sem {cs : List Int} (hc : Coins cs) (rest : List D) (s : List Int) : F_find_worth.sem [.tup (tI cs :: rest), tI s] = .val (.int (dotI cs s)) := by
  rw [S_find_worth]
  have hl := hc.len
  have hb : big (min cs.length s.length) = true := big_of (by omega)
  simp [B_find_worth, ix_tup, zipD, tI, zip_ints, hb]
  rw [lcGo_mapA (g := fun p : Int × Int => D.int (p.1 * p.2))]
  · simp only [bind_val, sum_map, dot_zip, out_val, then_rt, fin_rt]
  · intro p hp
    have hm := (List.of_mem_zip hp).1
    simp [lcF, bindT, flatT, setR, wipe, bin_mulI _ _ (mul_coin (hc.pos _ hm) (hc.top _ hm) _)]
theorem sub_zip : ∀ a b : List Int, ((a.zip b).map fun p => D.int (p.1 - p.2)) = (subI a b).map .int
  | [], _ => by simp [subI]
  | _ :: _, [] => by simp [subI]
  | x :: a, y :: b => by
    have := sub_zip a b
    simp only [subI] at this
    simp [subI, this]
theorem minus_sem (a b : List Int) (h : a.length ≤ 1000) : F_minus.sem [tI a, tI b] = .val (tI (subI a b)) := by
  rw [S_minus]
  have hb : big (min a.length b.length) = true := big_of (by omega)
  simp [B_minus, zipD, tI, zip_ints, hb]
  rw [lcGo_mapA (g := fun p : Int × Int => D.int (p.1 - p.2))]
  · simp [sub_zip]
  · intro p hp
    simp [lcF, bindT, flatT, setR, wipe]
theorem minusL_sem (a b : List Int) (h : a.length ≤ 1000) : F_minus.sem [tI a, .lst (b.map .int)] = .val (tI (subI a b)) := by
  rw [S_minus]
  have hb : big (min a.length b.length) = true := big_of (by omega)
  simp [B_minus, zipD, tI, zip_ints, hb]
  rw [lcGo_mapA (g := fun p : Int × Int => D.int (p.1 - p.2))]
  · simp [sub_zip]
  · intro p hp
    simp [lcF, bindT, flatT, setR, wipe]
/-! find_payments -/
theorem bigs_pay {cs fs : List Int} (hl : cs.length = fs.length) (hc : ∀ c ∈ cs, 0 < c) (hf : ∀ f ∈ fs, 0 ≤ f ∧ f ≤ 4) (h3 : fs.length ≤ 3) (a : Int) (ha : 0 ≤ a) : (payI cs fs a).length ≤ 125 := by
  rw [pay_prod hl hc (fun f h => (hf f h).1) ha]
  have h1 := List.length_filter_le (fun s => decide (dotI cs s = a)) (prodI fs)
  have h2 := prodI_len hf
  have h4 : 5 ^ fs.length ≤ 5 ^ 3 := Nat.pow_le_pow_right (by omega) h3
  omega
theorem cut_tail {α : Type} (x : α) (xs : List α) : cut (x :: xs) (some 1) none = xs := by
  unfold cut
  have h1 : HT.sIx (x :: xs).length 0 (some 1) = 1 := by
    simp [HT.sIx]
  have h2 : HT.sIx (x :: xs).length (x :: xs).length none = (x :: xs).length := rfl
  rw [h1, h2]
  simp
theorem eq_tI_nil (c : Int) (cs : List Int) : cmpD .Eq (tI (c :: cs)) (.tup []) = .val (.bl false) := by
  rw [cmp_eq _ _ (shp_of (okk_tI _) (Nat.le_trans (dep_tI _) (by decide))) (by decide +kernel)]
  rfl
theorem pay_nil (T : Tb) (fs : List Int) (a : Int) : (exec T B_find_payments [some (tI [], false), some (tI fs, false), some (.int a, false), none, none, none, none]).fin true = .val (.lst ((payI [] fs a).map tI)) := by
  have e : cmpD .Eq (.tup []) (.tup []) = .val (.bl true) := by kernel_rfl
  by_cases h : a = 0 <;> simp [B_find_payments, tI, big, e, payI, h, isFresh]
theorem ix_tI0 (c : Int) (cs : List Int) : ixD (tI (c :: cs)) (.int 0) = .val (.int c) := by
  show atD (.int c :: cs.map .int) 0 = _
  rw [at_0]
theorem sl_tI (c : Int) (cs : List Int) : slD (tI (c :: cs)) (some 1) none = .val (tI cs) := by
  show Res.val (D.tup (cut (.int c :: cs.map .int) (some 1) none)) = _
  rw [cut_tail]
  rfl
theorem add_one (m : Int) (s : List Int) (h : s.length ≤ 1000) : binD .Add (.tup [.int m]) (tI s) = .val (tI (m :: s)) := by
  have := bin_addT [.int m] (s.map .int) (by simp; omega)
  simpa [tI] using this
theorem pay_len : ∀ {cs fs : List Int} {a : Int} {s : List Int}, s ∈ payI cs fs a → s.length = cs.length
  | [], _, a, s, h => by
    simp only [payI] at h
    split at h
    · simp at h; subst h; rfl
    · cases h
  | c :: cs, [], _, _, h => by simp [payI] at h
  | c :: cs, f :: fs, a, s, h => by
    simp only [payI, List.mem_flatMap, List.mem_map] at h
    obtain ⟨m, _, t, ht, rfl⟩ := h
    simp [pay_len ht]
theorem pay_loop (T : Tb) (c f : Int) (cs fs : List Int) (a : Int) (hc0 : 0 < c) (hc1 : c ≤ 20) (hcl : cs.length ≤ 3) (g : Fn) (hg : T.fns[0]? = some g) (gp : g.ps.length = 3) (gf : g.fresh = true) :
    ∀ (ms : List Int) (acc : List D) (x y : Option (D × Bool)), (∀ m ∈ ms, g.sem [tI cs, tI fs, .int (a - m * c)] = .val (.lst ((payI cs fs (a - m * c)).map tI)) ∧ (payI cs fs (a - m * c)).length ≤ 125) → acc.length + 125 * ms.length ≤ 16777216 →
    ∃ x' y', forGo (forF T (.nm 4) L_find_payments_0) (ms.map .int) [some (tI (c :: cs), false), some (tI (f :: fs), false), some (.int a, false), some (.lst acc, true), x, y, none] = .nx [some (tI (c :: cs), false), some (tI (f :: fs), false), some (.int a, false), some (.lst (acc ++ (ms.flatMap fun m => (payI cs fs (a - m * c)).map (m :: ·)).map tI), true), x', y', none]
  | [], acc, x, y, _, _ => ⟨x, y, by simp⟩
  | m :: ms, acc, x, y, h, hl => by
    obtain ⟨h1, h2⟩ := h m (by simp)
    simp only [List.map_cons, forGo_cons, forF_nm]
    have hv : ∀ z w, visE [some (tI (c :: cs), false), some (tI (f :: fs), false), some (.int a, false), some (.lst acc, true), z, w, none] = [some (tI (c :: cs)), some (tI (f :: fs)), some (.int a), some (.lst acc), z.map (·.1), w.map (·.1), none] := fun _ _ => rfl
    have hb : exec T L_find_payments_0 [some (tI (c :: cs), false), some (tI (f :: fs), false), some (.int a, false), some (.lst acc, true), some (.int m, false), y, none] = .nx [some (tI (c :: cs), false), some (tI (f :: fs), false), some (.int a, false), some (.lst (acc ++ ((payI cs fs (a - m * c)).map (m :: ·)).map tI), true), some (.int m, false), some (.lst ((payI cs fs (a - m * c)).map tI), false), none] := by
      have b1 : big (payI cs fs (a - m * c)).length = true := big_of (by omega)
      have b2 : big (acc.length + (payI cs fs (a - m * c)).length) = true := big_of (by simp at hl; omega)
      simp [L_find_payments_0, hv, ix_tI0, isAnil, optI, sl_tI, hg, gp, h1, bin_mulI _ _ (mul_coin2 hc0 hc1 m), isFresh, gf, itemsFlat, flats_tI, b1]
      rw [lcGo_mapA (g := fun s => tI (m :: s))]
      · have e : D.flats ((payI cs fs (a - m * c)).map fun s => tI (m :: s)) = true := by
          have := flats_tI ((payI cs fs (a - m * c)).map (m :: ·))
          rwa [List.map_map] at this
        simp [b2, e]
      · intro s hs
        have := pay_len hs
        simp [wipe, big, add_one m s (by omega)]
    obtain ⟨x', y', e⟩ := pay_loop T c f cs fs a hc0 hc1 hcl g hg gp gf ms (acc ++ ((payI cs fs (a - m * c)).map (m :: ·)).map tI) (some (.int m, false)) (some (.lst ((payI cs fs (a - m * c)).map tI), false)) (fun z hz => h z (by simp [hz])) (by simp at hl ⊢; omega)
    refine ⟨x', y', ?_⟩
    simp only [List.set_cons_succ, List.set_cons_zero]
    rw [hb, then_nx, e]
    simp
theorem pay_cons (T : Tb) (c f : Int) (cs fs : List Int) (a : Int) (hc0 : 0 < c) (hc1 : c ≤ 20) (hcl : cs.length ≤ 3) (hf : 0 ≤ f ∧ f ≤ 4) (ha : 0 ≤ a) (hA : a < 1000000) (g : Fn) (hg : T.fns[0]? = some g) (gp : g.ps.length = 3) (gf : g.fresh = true)
    (h : ∀ b, 0 ≤ b → b ≤ a → g.sem [tI cs, tI fs, .int b] = .val (.lst ((payI cs fs b).map tI)) ∧ (payI cs fs b).length ≤ 125) :
    (exec T B_find_payments [some (tI (c :: cs), false), some (tI (f :: fs), false), some (.int a, false), none, none, none, none]).fin true = .val (.lst ((payI (c :: cs) (f :: fs) a).map tI)) := by
  have hq : 0 ≤ a / c := Int.ediv_nonneg ha (Int.le_of_lt hc0)
  have hd : divOk c = true := by simp [divOk]; omega
  have hr : rngD [.int (minI f (a / c) + 1)] = .val (.lst ((rgI 0 (minI f (a / c) + 1).toNat).map .int)) := by
    have : minI f (a / c) ≤ 4 ∧ 0 ≤ minI f (a / c) := by unfold minI; split <;> omega
    show (if _ then _ else _) = _
    rw [if_pos, rng_rgI]
    simp
    omega
  obtain ⟨x', y', e⟩ := pay_loop T c f cs fs a hc0 hc1 hcl g hg gp gf (rgI 0 (minI f (a / c) + 1).toNat) [] none none (fun m hm => h _ (by
    have hm' := mem_rgI.mp hm
    have hmq : m ≤ a / c := by
      unfold minI at hm'
      split at hm' <;> omega
    have := Int.mul_le_of_le_ediv hc0 hmq
    omega) (by
    have hm' := mem_rgI.mp hm
    have := Int.mul_nonneg hm'.1 (Int.le_of_lt hc0)
    omega)) (by
    have : minI f (a / c) ≤ 4 := by unfold minI; split <;> omega
    simp; omega)
  have hm : mmD false (.int f) (.int (a / c)) = .val (.int (minI f (a / c))) := rfl
  simp at e
  simp [B_find_payments, big, eq_tI_nil, isFresh, itemsFlat, D.flats, ix_tI0, binD, divD, hd, addD, hm, hr]
  rw [e]
  simp [payI]
theorem find_payments_sem {cs fs : List Int} (hc : Coins cs) (hl : cs.length = fs.length) (hf : ∀ f ∈ fs, 0 ≤ f ∧ f ≤ 4) {a : Int} (ha : 0 ≤ a) (hA : a < 1000000) : F_find_payments.sem [tI cs, tI fs, .int a] = .val (.lst ((payI cs fs a).map tI)) := by
  have key : ∀ (n : Nat) (T : Tb) (g : Fn), (∀ (ds ms : List Int) (b : Int), ds.length ≤ n → ds.length = ms.length → (∀ c ∈ ds, 0 < c ∧ c ≤ 20) → (∀ f ∈ ms, 0 ≤ f ∧ f ≤ 4) → ds.length ≤ 3 → 0 ≤ b → b < 1000000 → g.sem [tI ds, tI ms, .int b] = .val (.lst ((payI ds ms b).map tI))) → T.fns[0]? = some g → g.ps.length = 3 → g.fresh = true →
      ∀ (ds ms : List Int) (b : Int), ds.length ≤ n + 1 → ds.length = ms.length → (∀ c ∈ ds, 0 < c ∧ c ≤ 20) → (∀ f ∈ ms, 0 ≤ f ∧ f ≤ 4) → ds.length ≤ 3 → 0 ≤ b → b < 1000000 → (exec T B_find_payments [some (tI ds, false), some (tI ms, false), some (.int b, false), none, none, none, none]).fin true = .val (.lst ((payI ds ms b).map tI)) := by
    intro n T g hs hg gp gf ds ms b hn hl hc hf h3 hb hB
    match ds, ms, hl, hn, hc, hf, h3 with
    | [], ms, _, _, _, _, _ => exact pay_nil T ms b
    | c :: ds, f :: ms, hl, hn, hc, hf, h3 =>
      have hc' : ∀ x ∈ ds, 0 < x ∧ x ≤ 20 := fun x hx => hc x (by simp [hx])
      have hf' : ∀ x ∈ ms, 0 ≤ x ∧ x ≤ 4 := fun x hx => hf x (by simp [hx])
      simp only [List.length_cons] at hl hn h3
      exact pay_cons T c f ds ms b (hc c (by simp)).1 (hc c (by simp)).2 (by omega) (hf f (by simp)) hb hB g hg gp gf fun x h0 hx =>
        ⟨hs ds ms x (by omega) (by omega) hc' hf' (by omega) h0 (by omega), bigs_pay (by omega) (fun c h => (hc' c h).1) hf' (by omega) x h0⟩
  have nil : ∀ (T : Tb) (ds ms : List Int) (b : Int), ds.length ≤ 0 → (exec T B_find_payments [some (tI ds, false), some (tI ms, false), some (.int b, false), none, none, none, none]).fin true = .val (.lst ((payI ds ms b).map tI)) := by
    intro T ds ms b h
    have : ds = [] := List.length_eq_zero_iff.mp (by omega)
    subst this
    exact pay_nil T ms b
  have k1 := key 0 T_find_payments_r2 F_find_payments_r1 (fun ds ms b h _ _ _ _ _ _ => nil _ ds ms b h) rfl rfl rfl
  have k2 := key 1 T_find_payments_r3 F_find_payments_r2 k1 rfl rfl rfl
  have k3 := key 2 T_find_payments_r4 F_find_payments_r3 k2 rfl rfl rfl
  have k4 := key 3 T_find_payments F_find_payments_r4 k3 rfl rfl rfl
  have hl3 := hc.len
  exact k4 cs fs a (by omega) hl (fun c h => ⟨hc.pos c h, hc.top c h⟩) hf hc.len ha hA
end LW

/-! paying: greatest_first, fullest_first, by_rule -/
namespace LW
open CS
theorem forGo_app (b : D → Env → Out) : ∀ (xs ys : List D) (e : Env), forGo b (xs ++ ys) e = (forGo b xs e).then (forGo b ys)
  | [], ys, e => rfl
  | x :: xs, ys, e => by
    rw [List.cons_append, forGo_cons, forGo_cons]
    cases b x e with
    | nx e' => exact forGo_app b xs ys e'
    | rt d f => rfl
    | ex k => rfl
    | bad => rfl
theorem at_last (xs : List D) (d : D) : atD (xs ++ [d]) (-1) = .val d := by
  unfold atD ixN
  have h : ¬ ((0 : Int) ≤ -1) := by decide
  rw [if_neg h, if_pos (by simp; omega)]
  have e : ((-1 : Int) + ((xs ++ [d]).length : Int)).toNat = xs.length := by simp; omega
  rw [e]
  simp
def grT : List Int → List Int → Int → List Int
  | c :: cs, g :: gs, a => minI g ((grR cs gs a).2 / c) :: grT cs gs a
  | _, _, _ => []
theorem grT_sub : ∀ {cs gs : List Int} {a : Int}, cs.length = gs.length → grT cs gs a = subI gs (grR cs gs a).1
  | [], [], _, _ => rfl
  | [], _ :: _, _, h => by simp at h
  | _ :: _, [], _, h => by simp at h
  | c :: cs, g :: gs, a, h => by
    have ih := grT_sub (cs := cs) (gs := gs) (a := a) (by simpa using h)
    simp only [grT, grR, subI, List.zipWith_cons_cons] at ih ⊢
    rw [ih]
    congr 1
    omega
theorem divOk_coin {c : Int} (h1 : 0 < c) (h2 : c ≤ 20) : divOk c = true := by simp [divOk]; omega
theorem gr_loop (T : Tb) (o0 o1 o2 : Option (D × Bool)) : ∀ (cs gs : List Int) (acc : List Int) (a : Int) (x y : Option (D × Bool)), (∀ c ∈ cs, 0 < c ∧ c ≤ 20) → cs.length = gs.length → acc.length + cs.length ≤ 1000 →
    ∃ x' y', forGo (forF T (.tup (.cons (.nm 5) (.cons (.nm 6) .nil))) L_greatest_first_0) ((cs.zip gs).map fun p => D.tup [.int p.1, .int p.2]).reverse [o0, o1, o2, some (.lst (acc.map .int), true), some (.int a, false), x, y] = .nx [o0, o1, o2, some (.lst ((acc ++ (grT cs gs a).reverse).map .int), true), some (.int (grR cs gs a).2, false), x', y']
  | [], gs, acc, a, x, y, _, _, _ => ⟨x, y, by simp [grT, grR]⟩
  | _ :: _, [], acc, a, x, y, _, h, _ => by simp at h
  | c :: cs, g :: gs, acc, a, x, y, hc, hl, hb => by
    obtain ⟨x1, y1, ih⟩ := gr_loop T o0 o1 o2 cs gs acc a x y (fun z hz => hc z (by simp [hz])) (by simpa using hl) (by simp at hb; omega)
    obtain ⟨h1, h2⟩ := hc c (by simp)
    refine ⟨some (.int c, false), some (.int g, false), ?_⟩
    simp only [List.zip_cons_cons, List.map_cons, List.reverse_cons]
    rw [forGo_app, ih, then_nx, forGo_cons]
    have hv : ∀ p q r s, visE [o0, o1, o2, some (.lst p, true), some (.int q, false), some (.int r, false), some (.int s, false)] = [o0.map (·.1), o1.map (·.1), o2.map (·.1), some (.lst p), some (.int q), some (.int r), some (.int s)] := fun _ _ _ _ => rfl
    have hlen : (grT cs gs a).length ≤ cs.length := by
      rw [grT_sub (by simpa using hl)]
      simp [subI]
      simp at hl
      omega
    have hbg : big (((acc ++ (grT cs gs a).reverse).map D.int).length + 1) = true := big_of (by simp at hb ⊢; omega)
    have hm : ∀ q, mmD false (.int g) (.int q) = .val (.int (minI g q)) := fun _ => rfl
    have hi : ∀ (xs : List D) (d : D), ixD (.lst (xs ++ [d])) (.int (-1)) = .val d := at_last
    have hs : forF T (.tup (.cons (.nm 5) (.cons (.nm 6) .nil))) L_greatest_first_0 (.tup [.int c, .int g]) [o0, o1, o2, some (.lst ((acc ++ (grT cs gs a).reverse).map .int), true), some (.int (grR cs gs a).2, false), x1, y1] = .nx [o0, o1, o2, some (.lst ((acc ++ (grT (c :: cs) (g :: gs) a).reverse).map .int), true), some (.int (grR (c :: cs) (g :: gs) a).2, false), some (.int c, false), some (.int g, false)] := by
      have e1 : (acc ++ (grT (c :: cs) (g :: gs) a).reverse).map D.int = (acc ++ (grT cs gs a).reverse).map D.int ++ [.int (minI g ((grR cs gs a).2 / c))] := by simp [grT]
      have e2 : (grR (c :: cs) (g :: gs) a).2 = (grR cs gs a).2 - minI g ((grR cs gs a).2 / c) * c := rfl
      rw [e1, e2]
      generalize (acc ++ (grT cs gs a).reverse).map D.int = L at hbg
      simp only [forF, bindE, flatT, Option.bind_some, Option.map_some, List.append_nil, List.singleton_append, setE, List.set_cons_succ, List.set_cons_zero, L_greatest_first_0]
      simp [hv, binD, divD, divOk_coin h1 h2, hm, negD, D.flat, hbg, hi, subD, mulD, mul_coin2 h1 h2]
    rw [hs, then_nx, forGo_nil]
theorem greatest_first_sem {cs f : List Int} (hc : Coins cs) (hl : cs.length = f.length) (hf : ∀ x ∈ f, 0 ≤ x) {a : Int} (ha : 0 ≤ a) : F_greatest_first.sem [tI cs, tI f, .int a] = .val (tI (subI f (lp false cs a.toNat f a).1)) := by
  have hl3 := hc.len
  rw [S_greatest_first]
  obtain ⟨x', y', e⟩ := gr_loop T_greatest_first (some (tI cs, false)) (some (tI f, false)) (some (.int a, false)) cs f [] a none none (fun c h => ⟨hc.pos c h, hc.top c h⟩) hl (by simp; omega)
  have hb : big (min cs.length f.length) = true := big_of (by omega)
  have hz : lzD [tI cs, tI f] = .val (.lst ((cs.zip f).map fun p => D.tup [.int p.1, .int p.2])) := by
    simp [lzD, tI, zip_ints, hb]
  have hr : ∀ xs, revD (.lst xs) = .val (.lst xs.reverse) := fun _ => rfl
  rw [lp_great hc.pos hc.asc hf (Nat.le_refl _) ha, ← grT_sub hl]
  simp [B_greatest_first, big, parO, parE, isFresh, D.flats, D.flat, noOwn, hz, hr]
  simp at e
  rw [e]
  simp [hr, tI]
/-! fullest_first -/
theorem atD_ints {xs : List Int} {j : Nat} {x : Int} (h : xs[j]? = some x) : atD (xs.map .int) (j : Int) = .val (.int x) := by
  obtain ⟨hj, _⟩ := List.getElem?_eq_some_iff.mp h
  unfold atD ixN
  rw [if_pos (by omega), if_pos (by simp; omega)]
  simp [h]
theorem ixN_nat {n j : Nat} (h : j < n) : ixN n (j : Int) = some j := by
  unfold ixN
  rw [if_pos (by omega), if_pos (by omega)]
  simp
theorem enm_ints : ∀ (cs : List Int) (k : Int), enmL k (cs.map .int) = (List.zip (rgI k cs.length) cs).map fun p => D.tup [.int p.1, .int p.2]
  | [], _ => by simp [enmL, rgI]
  | c :: cs, k => by simp [enmL, rgI, enm_ints cs]
/-- the rows that can be taken, item by item -/
theorem rw_go (fu : Bool) (f : D → Res (Option D)) (G : List Int) (a : Int) : ∀ (cs gs : List Int) (k : Nat), cs.length = gs.length → (∀ j : Nat, G[k + j]? = gs[j]?) →
    (∀ (j : Nat) (c g : Int), cs[j]? = some c → G[k + j]? = some g → f (.tup [.int ((k + j : Nat) : Int), .int c]) = .val (if c ≤ a ∧ 0 < g then some (rwD (if fu then g else 0, c, ((k + j : Nat) : Int))) else none)) →
    lcGo f ((List.zip (rgI k cs.length) cs).map fun p => D.tup [.int p.1, .int p.2]) = .val ((rwI fu cs gs k a).map rwD)
  | [], _, _, _, _, _ => by simp [rwI]
  | _ :: _, [], _, h, _, _ => by simp at h
  | c :: cs, g :: gs, k, hl, hG, hf => by
    have h0 := hf 0 c g (by simp) (by rw [hG]; simp)
    rw [Nat.add_zero] at h0
    have ih := rw_go fu f G a cs gs (k + 1) (by simpa using hl) (fun j => by
      have := hG (j + 1)
      rw [show k + 1 + j = k + (j + 1) by omega, this]
      simp) (fun j c' g' h1 h2 => by
      have := hf (j + 1) c' g' (by simpa using h1) (by rw [show k + (j + 1) = k + 1 + j by omega]; exact h2)
      rw [show k + 1 + j = k + (j + 1) by omega]
      exact this)
    simp only [List.length_cons, rgI, List.zip_cons_cons, List.map_cons]
    rw [lcGo_step _ _ _ _ h0]
    have e : ((k : Int) + 1) = ((k + 1 : Nat) : Int) := by simp
    rw [e, ih, bind_val]
    simp only [rwI]
    split
    · simp
    · simp
theorem lp_go {fu : Bool} {cs gs : List Int} {a : Int} (hc : ∀ c ∈ cs, 0 < c) (ha : 0 ≤ a) : (stp fu cs gs a = none ∧ lp fu cs a.toNat gs a = (gs, a)) ∨ ∃ gs' a', stp fu cs gs a = some (gs', a') ∧ lp fu cs a.toNat gs a = lp fu cs a'.toNat gs' a' := by
  cases h : stp fu cs gs a with
  | none =>
    refine .inl ⟨rfl, ?_⟩
    cases a.toNat with
    | zero => rfl
    | succ n => simp only [lp, h]
  | some p =>
    obtain ⟨gs', a'⟩ := p
    refine .inr ⟨gs', a', rfl, ?_⟩
    obtain ⟨j, c, g, h1, h2, h3, h4, rfl, rfl⟩ := stp_some h
    have hc0 := hc c (List.mem_of_getElem? h1)
    obtain ⟨m, hm⟩ : ∃ m, a.toNat = m + 1 := ⟨a.toNat - 1, by omega⟩
    rw [hm]
    simp only [lp, h]
    exact lp_more hc (by omega) (by omega)
theorem subI_sub : ∀ {f g : List Int}, f.length = g.length → subI f (subI f g) = g
  | [], [], _ => rfl
  | [], _ :: _, h => by simp at h
  | _ :: _, [], h => by simp at h
  | x :: f, y :: g, h => by
    have := subI_sub (f := f) (g := g) (by simpa using h)
    simp only [subI, List.zipWith_cons_cons] at this ⊢
    rw [this]
    congr 1
    omega
theorem subI_set : ∀ {f g : List Int} {j : Nat} {x y : Int}, g[j]? = some y → (subI f g).set j ((subI f g).getD j 0 + x) = subI f (g.set j (y - x))
  | [], _, _, _, _, _ => by simp [subI]
  | _ :: _, [], _, _, _, h => by simp at h
  | a :: f, b :: g, 0, x, y, h => by
    simp at h
    subst h
    simp [subI]
    omega
  | a :: f, b :: g, j + 1, x, y, h => by
    have := subI_set (f := f) (g := g) (j := j) (x := x) (y := y) (by simpa using h)
    simp only [subI, List.zipWith_cons_cons, List.set_cons_succ] at this ⊢
    rw [← this]
    rfl
theorem eq_rows (ps : List Rw) : cmpD .Eq (.lst (ps.map rwD)) (.lst []) = .val (.bl ps.isEmpty) := by
  rw [cmp_eq _ _ (shp_rw ps) (by decide +kernel)]
  cases ps <;> rfl
theorem ne_rows (ps : List Rw) : cmpD .NotEq (.lst (ps.map rwD)) (.lst []) = .val (.bl (!ps.isEmpty)) := by
  rw [cmp_ne _ _ (shp_rw ps) (by decide +kernel)]
  cases ps <;> rfl
theorem ix_rw1 (p : Rw) : ixD (rwD p) (.int 1) = .val (.int p.2.1) := rfl
theorem ix_rw2 (p : Rw) : ixD (rwD p) (.int 2) = .val (.int p.2.2) := rfl
def rowsE : E := (.lc (.tup (.acons (.ix (.var 5) (.var 7)) (.acons (.var 8) (.acons (.var 7) .anil)))) (.tup (.cons (.nm 7) (.cons (.nm 8) .nil))) (.enm (.var 0)) (.and (.cmp .LtE (.var 8) (.var 4)) (.cmp .Gt (.ix (.var 5) (.var 7)) (.int 0))) [("k", 7), ("coin", 8)])
theorem rows_ev (T : Tb) {cs gs : List Int} (hc : cs.length ≤ 3) (hl : cs.length = gs.length) (a : Int) (x1 x2 x3 x6 : Option D) : ev T rowsE [some (tI cs), x1, x2, x3, some (.int a), some (tI gs), x6, none, none] = .val (.lst ((rwI true cs gs 0 a).map rwD)) := by
  have hb : big cs.length = true := big_of (by omega)
  have hi : ∀ (j : Nat) (g : Int), gs[j]? = some g → ixD (tI gs) (.int (j : Int)) = .val (.int g) := fun j g h => atD_ints h
  have ht : itemsD (tI cs) = .val (cs.map .int) := rfl
  unfold rowsE
  simp [ht, enm_ints, hb]
  rw [show (0 : Int) = ((0 : Nat) : Int) from rfl, rw_go true _ gs a cs gs 0 hl (fun j => by simp)]
  · simp
  · intro j c g h1 h2
    rw [Nat.zero_add] at h2 ⊢
    rw [lcF_if _ _ _ _ _ [some (tI cs), x1, x2, x3, some (.int a), some (tI gs), x6, some (.int (j : Int)), some (.int c)] _ (by rfl) (by rfl)]
    simp [hi j g h2, big]
    by_cases h3 : c ≤ a <;> by_cases h4 : 0 < g <;> simp [h3, h4, rwD]
theorem full_loop {cs f : List Int} (hc : Coins cs) (hl : cs.length = f.length) (o2 : Option (D × Bool)) : ∀ (n : Nat) (gs : List Int) (a : Int) (x y : Option (D × Bool)), a.toNat < n → 0 ≤ a → f.length = gs.length →
    whileGo (fun e1 => (ev T_fullest_first (.bl true) (visE e1)).bind boolD) (exec T_fullest_first L_fullest_first_0) n [some (tI cs, false), some (tI f, false), o2, some (.lst ((subI f gs).map .int), true), some (.int a, false), x, y, none, none] = .rt (tI (subI f (lp true cs a.toNat gs a).1)) false
  | 0, _, _, _, _, h, _, _ => absurd h (Nat.not_lt_zero _)
  | n + 1, gs, a, x, y, hn, ha, hg => by
    have hl3 := hc.len
    rw [whileGo_true (by rfl)]
    have hv : ∀ p q r, visE [some (tI cs, false), some (tI f, false), o2, some (.lst p, true), some (.int a, false), q, r, none, none] = [some (tI cs), some (tI f), o2.map (·.1), some (.lst p), some (.int a), q.map (·.1), r.map (·.1), none, none] := fun _ _ _ => rfl
    have hm : F_minus.sem [tI f, .lst ((subI f gs).map .int)] = .val (tI gs) := by
      rw [minusL_sem _ _ (by omega), subI_sub hg]
    have hb : big cs.length = true := big_of (by omega)
    have hfr : isFresh T_fullest_first rowsE = true := rfl
    have hrw := rows_ev T_fullest_first hc.len (hl.trans hg) a (some (tI f)) (o2.map (·.1)) (some (.lst ((subI f gs).map .int)))
    have hL : L_fullest_first_0 = (.seq (.asg (.nm 5) (.call 0 (.acons (.var 1) (.acons (.var 3) .anil))) [] true false)
 (.seq (.asg (.nm 6) rowsE [] true false)
 (.seq (.iff (.cmp .Eq (.var 6) (.lst .anil))
 (.seq (.ret (.b1 .tuple (.var 3)))
 .done)
 .done)
 (.seq (.augix 3 (.ix (.b1 .max (.var 6)) (.int 2)) (.int 1))
 (.seq (.asg (.nm 4) (.bin .Sub (.var 4) (.ix (.b1 .max (.var 6)) (.int 1))) [] true false)
 .done))))) := rfl
    have hbody : exec T_fullest_first L_fullest_first_0 [some (tI cs, false), some (tI f, false), o2, some (.lst ((subI f gs).map .int), true), some (.int a, false), x, y, none, none] = match rwI true cs gs 0 a with
      | [] => .rt (tI (subI f gs)) false
      | p :: ps => .nx [some (tI cs, false), some (tI f, false), o2, some (.lst ((subI f (gs.set (mxR p ps).2.2.toNat (gs.getD (mxR p ps).2.2.toNat 0 - 1))).map .int), true), some (.int (a - (mxR p ps).2.1), false), some (tI gs, false), some (.lst ((p :: ps).map rwD), false), none, none] := by
      rw [hL]
      simp only [exq_seq, exq_asg, evS_vis, frz_nil, hv]
      simp [hm, flat_tI, -evq_lc, hv, hrw, hfr, itemsFlat, flats_rw, big, eq_rows]
      cases hr : rwI true cs gs 0 a with
      | nil => simp [hv, tI, isFresh]
      | cons p ps =>
        have hmem : mxR p ps ∈ rwI true cs gs 0 a := by rw [hr]; exact mxR_mem ps p
        obtain ⟨j, h1, h2, h3, g, h4, h5⟩ := rw_mem hmem
        have hj : (mxR p ps).2.2 = (j : Int) := by rw [h1]; omega
        obtain ⟨hjl, _⟩ := List.getElem?_eq_some_iff.mp h4
        have hmx : b1D .max (.lst (rwD p :: ps.map rwD)) = .val (rwD (mxR p ps)) := max_sem ps p
        have hjs : j < (subI f gs).length := by simp [subI]; omega
        have e1 : (subI f gs)[j]? = some ((subI f gs)[j]) := List.getElem?_eq_getElem hjs
        have hset := subI_set (f := f) (x := 1) h4
        rw [List.getD_eq_getElem?_getD, e1] at hset
        simp [hv, hmx, ix_rw2, ix_rw1, hj]
        rw [augO_at (n := j) (p := (subI f gs)[j]) (q := 1) (by rw [List.length_map]; exact ixN_nat hjs) (by rw [List.getElem?_map, e1]; rfl) rfl]
        have hv2 : ∀ L, visE [some (tI cs, false), some (tI f, false), o2, some (.lst L, true), some (.int a, false), some (tI gs, false), some (D.lst (rwD p :: List.map rwD ps), false), none, none] = [some (tI cs), some (tI f), o2.map (·.1), some (.lst L), some (.int a), some (tI gs), some (D.lst (rwD p :: List.map rwD ps)), none, none] := fun _ => rfl
        simp [hv2, hmx, ix_rw1, D.flat]
        simp at hset
        rw [h4, Option.getD_some, ← hset, List.map_set]
    rw [hbody]
    rcases lp_go (fu := true) (gs := gs) hc.pos ha with ⟨h1, h2⟩ | ⟨gs', a', h1, h2⟩
    · have : rwI true cs gs 0 a = [] := by
        unfold stp at h1
        split at h1
        · assumption
        · cases h1
      rw [this, h2]
      rfl
    · obtain ⟨j, c, g, q1, q2, q3, q4, q5, q6⟩ := stp_some h1
      have hc0 := hc.pos c (List.mem_of_getElem? q1)
      unfold stp at h1
      split at h1
      · cases h1
      · rename_i p ps e
        try rw [e]
        simp only [then_nx]
        cases h1
        rw [h2]
        exact full_loop hc hl o2 n _ _ _ _ (by omega) (by omega) (by rw [hg]; simp)
theorem subI_self : ∀ f : List Int, subI f f = List.replicate f.length 0
  | [] => rfl
  | x :: f => by
    have := subI_self f
    simp only [subI, List.zipWith_cons_cons] at this ⊢
    rw [this]
    simp [List.replicate_succ]
theorem fullest_first_sem {cs f : List Int} (hc : Coins cs) (hl : cs.length = f.length) {a : Int} (ha : 0 ≤ a) (hA : a < 10000) : F_fullest_first.sem [tI cs, tI f, .int a] = .val (tI (subI f (lp true cs a.toNat f a).1)) := by
  have hl3 := hc.len
  rw [S_fullest_first]
  have e := full_loop hc hl (some (.int a, false)) 100000 f a none none (by omega) ha rfl
  have hz : binD .Mult (.lst [.int 0]) (.int (cs.length : Int)) = .val (.lst ((subI f f).map .int)) := by
    rw [bin_mulL _ _ (by omega) (by omega) (by simp), subI_self, ← hl]
    simp [repD]
  have hfl : D.flats ((subI f f).map .int) = true := flats_of fun x hx => by
    obtain ⟨i, _, rfl⟩ := List.mem_map.mp hx
    rfl
  have hlen : b1D .len (tI cs) = .val (.int (cs.length : Int)) := by
    show Res.val (D.int ((cs.map D.int).length : Int)) = _
    rw [List.length_map]
  simp [B_fullest_first, big, hlen, hz, parO, parE, isFresh, hfl, D.flat, exq_whil]
  simp at e
  rw [e]
  rfl
end LW

/-! paying: by_rule, less_than, find_paid -/
namespace LW
open CS
inductive Ch where | great | few | full
inductive Un where | refuse | short | keep | over
def Ch.s : Ch → PySem.Str
  | .great => "great" | .few => "few" | .full => "full"
def Un.s : Un → PySem.Str
  | .refuse => "refuse" | .short => "short" | .keep => "keep" | .over => "over"
def ruleI (ch : Ch) (cs f : List Int) (a : Int) : Option (List Int) := match ch with
  | .great => coinI false cs f a
  | .few => fewI (payI cs f a)
  | .full => coinI true cs f a
def optD : Option (List Int) → D
  | none => .non
  | some s => tI s
@[simp] theorem optD_some (s : List Int) : optD (some s) = tI s := (rfl)
@[simp] theorem optD_none : optD none = .non := (rfl)
/-- fillings as the law has them -/
structure Fill (cs f : List Int) : Prop where
  len : cs.length = f.length
  rng : ∀ x ∈ f, 0 ≤ x ∧ x ≤ 4
theorem Fill.nn {cs f : List Int} (h : Fill cs f) : ∀ x ∈ f, 0 ≤ x := fun x hx => (h.rng x hx).1
theorem sum_tI (s : List Int) : b1D .sum (tI s) = .val (.int s.sum) := by
  show (match intsD (s.map .int) with | some ns => Res.val (D.int ns.sum) | none => .bad) = _
  have := ints_map (fun x : Int => x) s
  simp only [List.map_id'] at this
  rw [this]
theorem ne_mrows (ss : List (List Int)) : cmpD .NotEq (.lst (ss.map rowD)) (.lst []) = .val (.bl (!ss.isEmpty)) := by
  rw [cmp_ne _ _ (shp_rows ss) (by decide +kernel)]
  cases ss <;> rfl
theorem ix_row1 (s : List Int) : ixD (rowD s) (.int 1) = .val (tI s) := rfl
/-- the words of change, asked for -/
theorem ch_few : ∀ ch : Ch, cmpD .Eq (.str ch.s) (.str "few") = .val (.bl (match ch with | .few => true | _ => false))
  | .great => by kernel_rfl
  | .few => by kernel_rfl
  | .full => by kernel_rfl
theorem ch_great : ∀ ch : Ch, cmpD .Eq (.str ch.s) (.str "great") = .val (.bl (match ch with | .great => true | _ => false))
  | .great => by kernel_rfl
  | .few => by kernel_rfl
  | .full => by kernel_rfl
theorem ch_full : ∀ ch : Ch, cmpD .Eq (.str ch.s) (.str "full") = .val (.bl (match ch with | .full => true | _ => false))
  | .great => by kernel_rfl
  | .few => by kernel_rfl
  | .full => by kernel_rfl
theorem un_refuse : ∀ u : Un, cmpD .Eq (.str u.s) (.str "refuse") = .val (.bl (match u with | .refuse => true | _ => false))
  | .refuse => by kernel_rfl
  | .short => by kernel_rfl
  | .keep => by kernel_rfl
  | .over => by kernel_rfl
theorem un_over : ∀ u : Un, cmpD .Eq (.str u.s) (.str "over") = .val (.bl (match u with | .over => true | _ => false))
  | .refuse => by kernel_rfl
  | .short => by kernel_rfl
  | .keep => by kernel_rfl
  | .over => by kernel_rfl
theorem un_keep : ∀ u : Un, cmpD .Eq (.str u.s) (.str "keep") = .val (.bl (match u with | .keep => true | _ => false))
  | .refuse => by kernel_rfl
  | .short => by kernel_rfl
  | .keep => by kernel_rfl
  | .over => by kernel_rfl
/-- a machine, as far as paying looks at it -/
def mch (cs : List Int) (rs ws mo p0 : D) (ch : Ch) (un : Un) (lm : D) : D := .tup [tI cs, rs, ws, mo, .tup [p0, .str ch.s, .str un.s], lm]
theorem ix_m0 (cs : List Int) (rs ws mo p0 : D) (ch : Ch) (un : Un) (lm : D) : ixD (mch cs rs ws mo p0 ch un lm) (.int 0) = .val (tI cs) := rfl
theorem ix_m4 (cs : List Int) (rs ws mo p0 : D) (ch : Ch) (un : Un) (lm : D) : ixD (mch cs rs ws mo p0 ch un lm) (.int 4) = .val (.tup [p0, .str ch.s, .str un.s]) := rfl
theorem ix_p1 (a b c : D) : ixD (.tup [a, b, c]) (.int 1) = .val b := rfl
theorem ix_p2 (a b c : D) : ixD (.tup [a, b, c]) (.int 2) = .val c := rfl
theorem by_rule_sem {cs f : List Int} (hc : Coins cs) (hf : Fill cs f) {a : Int} (ha : 0 ≤ a) (hA : a < 10000) (rs ws mo p0 : D) (ch : Ch) (un : Un) (lm : D) : F_by_rule.sem [mch cs rs ws mo p0 ch un lm, tI f, .int a] = .val (optD (ruleI ch cs f a)) := by
  have hl3 := hc.len
  rw [S_by_rule]
  have hb := bigs_pay hf.len hc.pos hf.rng (by rw [← hf.len]; omega) a ha
  have hbg : big (payI cs f a).length = true := big_of (by omega)
  have hp := find_payments_sem hc hf.len hf.rng ha (by omega)
  have hg := greatest_first_sem hc hf.len hf.nn ha
  have hu := fullest_first_sem hc hf.len ha hA
  have hw : ∀ s, F_find_worth.sem [mch cs rs ws mo p0 ch un lm, tI s] = .val (.int (dotI cs s)) := fun s => find_worth_sem hc _ s
  have hcn : ∀ fu, coinI fu cs f a = _ := fun fu => coin_dot (fu := fu) (f := f) hc.pos ha
  have hns : noOwn [some (mch cs rs ws mo p0 ch un lm, false), some (tI f, false), some (.int a, false), none, none, none, none] = true := rfl
  cases ch with
  | few =>
    have h1 := ch_few .few
    simp [B_by_rule, ix_m4, ix_p1, ix_m0, h1, hp, D.flat, hbg, noOwn]
    rw [lcGo_mapA (g := rowD)]
    · simp [ne_mrows, big]
      cases hs : payI cs f a with
      | nil => simp [ruleI, hs, fewI, optD]
      | cons s ss => 
        have hm : b1D .min (.lst (rowD s :: ss.map rowD)) = _ := min_sem ss s
        simp [ruleI, hs, fewI, optD, hm, ix_row1]
    · intro s _
      simp [wipe, sum_tI, big, rowD]
  | great =>
    have h1 := ch_few .great
    have h2 := ch_great .great
    simp [B_by_rule, ix_m4, ix_p1, ix_m0, h1, h2, hg, D.flat, noOwn, hw, ruleI, hcn]
    by_cases h : dotI cs (subI f (lp false cs a.toNat f a).1) = a <;> simp [h, optD]
  | full =>
    have h1 := ch_few .full
    have h2 := ch_great .full
    simp [B_by_rule, ix_m4, ix_p1, ix_m0, h1, h2, hu, D.flat, noOwn, hw, ruleI, hcn]
    by_cases h : dotI cs (subI f (lp true cs a.toNat f a).1) = a <;> simp [h, optD]
end LW

/-! paying: less_than, find_paid -/
namespace LW
open CS
theorem isn_opt (o : Option (List Int)) : cmpD .IsNot (optD o) .non = .val (.bl o.isSome) := by
  cases o <;> rfl
theorem is_opt (o : Option (List Int)) : cmpD .Is (optD o) .non = .val (.bl o.isNone) := by
  cases o <;> rfl
theorem ne_ts (ss : List (List Int)) : cmpD .NotEq (.lst (ss.map tI)) (.lst []) = .val (.bl (!ss.isEmpty)) := by
  rw [cmp_ne _ _ (shp_of (okk_ts ss) (dep_ts ss)) (by decide +kernel)]
  cases ss <;> rfl
theorem fil_map (r : Int → Option (List Int)) : ∀ xs : List Int, ((xs.filter fun b => (r b).isSome).map fun b => optD (r b)) = (xs.filterMap r).map tI
  | [] => rfl
  | x :: xs => by
    have ih := fil_map r xs
    cases h : r x with
    | none => simp [h, ih]
    | some s => simp [h, ih]
theorem rule_zero {cs f : List Int} (hc : Coins cs) (hf : Fill cs f) (ch : Ch) : ∃ s, ruleI ch cs f 0 = some s := by
  have hp : ∀ {cs f : List Int}, (∀ c ∈ cs, 0 < c) → cs.length = f.length → (∀ x ∈ f, 0 ≤ x ∧ x ≤ 4) → payI cs f 0 ≠ [] := by
    intro cs
    induction cs with
    | nil => intro f _ _ _; simp [payI]
    | cons c cs ih =>
      intro f hc hl hf
      match f, hl with
      | x :: f, hl =>
        have hx := hf x (by simp)
        have i := ih (f := f) (fun z hz => hc z (by simp [hz])) (by simpa using hl) (fun z hz => hf z (by simp [hz]))
        simp only [payI, Int.zero_ediv]
        obtain ⟨n, hn⟩ : ∃ n, (minI x 0 + 1).toNat = n + 1 := ⟨(minI x 0 + 1).toNat - 1, by unfold minI; split <;> omega⟩
        rw [hn]
        simp only [rgI, List.flatMap_cons, Int.zero_mul, Int.sub_zero]
        intro z
        rw [List.append_eq_nil_iff, List.map_eq_nil_iff] at z
        exact i z.1
  cases ch with
  | great => exact ⟨_, rfl⟩
  | full => exact ⟨_, rfl⟩
  | few =>
    have := hp hc.pos hf.len hf.rng
    simp only [ruleI]
    cases h : payI cs f 0 with
    | nil => exact absurd h this
    | cons s ss => exact ⟨_, rfl⟩
theorem dot_le : ∀ {cs f : List Int}, (∀ c ∈ cs, 0 < c ∧ c ≤ 20) → (∀ x ∈ f, 0 ≤ x ∧ x ≤ 4) → 0 ≤ dotI cs f ∧ dotI cs f ≤ 80 * cs.length
  | [], _, _, _ => by simp [dotI]
  | _ :: _, [], _, _ => by simp [dotI]; omega
  | c :: cs, x :: f, hc, hf => by
    have ih := dot_le (cs := cs) (f := f) (fun z hz => hc z (by simp [hz])) (fun z hz => hf z (by simp [hz]))
    have h1 := hc c (by simp)
    have h2 := hf x (by simp)
    have h3 : c * x ≤ 20 * 4 := Int.mul_le_mul h1.2 h2.2 h2.1 (by decide)
    have h4 : 0 ≤ c * x := Int.mul_nonneg (by omega) h2.1
    simp only [dotI, List.length_cons]
    constructor <;> omega
theorem rng1 {a : Int} (h0 : 0 ≤ a) (h1 : a < 100000) : rngD [.int a] = .val (.lst ((rgI 0 a.toNat).map .int)) := by
  show (if _ then _ else _) = _
  rw [if_pos, rng_rgI]
  simp
  omega
theorem rng2 {a b : Int} (h0 : 0 ≤ a) (h1 : a < 100000) (h2 : 0 ≤ b) (h3 : b < 100000) : rngD [.int a, .int b] = .val (.lst ((rgI a (b - a).toNat).map .int)) := by
  show (if _ then _ else _) = _
  rw [if_pos, rng_rgI]
  simp
  omega
def lessI (ch : Ch) (cs f : List Int) (a : Int) : Option (List Int) := (rgI 0 a.toNat).reverse.findSome? (ruleI ch cs f)
theorem less_some {cs f : List Int} (hc : Coins cs) (hf : Fill cs f) (ch : Ch) {a : Int} (ha : 0 < a) : ∃ s, lessI ch cs f a = some s := by
  obtain ⟨s, hs⟩ := rule_zero hc hf ch
  have : (lessI ch cs f a).isSome = true := by
    unfold lessI
    rw [List.findSome?_isSome_iff]
    exact ⟨0, by rw [List.mem_reverse, mem_rgI]; omega, by rw [hs]; rfl⟩
  exact Option.isSome_iff_exists.mp this
theorem at_lastQ {xs : List D} {d : D} (h : xs.getLast? = some d) : atD xs (-1) = .val d := by
  obtain ⟨ys, rfl⟩ := List.getLast?_eq_some_iff.mp h
  exact at_last ys d
theorem less_than_sem {cs f : List Int} (hc : Coins cs) (hf : Fill cs f) {a : Int} (ha : 0 < a) (hA : a < 10000) (rs ws mo p0 : D) (ch : Ch) (un : Un) (lm : D) : F_less_than.sem [mch cs rs ws mo p0 ch un lm, tI f, .int a] = .val (optD (lessI ch cs f a)) := by
  rw [S_less_than]
  have hr := fun b h0 h1 => by_rule_sem hc hf (a := b) h0 h1 rs ws mo p0 ch un lm
  have hb : big a.toNat = true := big_of (by omega)
  obtain ⟨s, hs⟩ := less_some hc hf ch ha
  simp [B_less_than, rng1 (show 0 ≤ a by omega) (by omega), hb]
  rw [lcGo_mapA (g := fun b => optD (ruleI ch cs f b))]
  · simp [noOwn, hb, negD]
    rw [lcGo_filA (p := fun b => (ruleI ch cs f b).isSome) (g := fun b => optD (ruleI ch cs f b))]
    · rw [bind_val, fil_map, hs]
      have hl : ((((rgI 0 a.toNat).filterMap (ruleI ch cs f))).map tI).getLast? = some (tI s) := by
        rw [List.getLast?_map, List.getLast?_eq_head?_reverse, ← List.filterMap_reverse, List.head?_filterMap]
        show Option.map tI (lessI ch cs f a) = _
        rw [hs]; rfl
      have hx : ixD (.lst (((rgI 0 a.toNat).filterMap (ruleI ch cs f)).map tI)) (.int (-1)) = .val (tI s) := at_lastQ hl
      simp [hx]
    · intro b _
      rw [lcF_if _ _ _ _ _ [some (mch cs rs ws mo p0 ch un lm), some (tI f), some (.int a), some (.lst ((rgI 0 a.toNat).map fun b => optD (ruleI ch cs f b))), none, some (optD (ruleI ch cs f b))] _ (by rfl) (by rfl)]
      simp [isn_opt]
      cases ruleI ch cs f b <;> simp
  · intro b hb
    have := mem_rgI.mp hb
    simp [wipe, hr b (by omega) (by omega)]
def paidI (un : Un) (ch : Ch) (cs f : List Int) (due : Int) : Option (List Int) := match ruleI ch cs f due, un with
  | some s, _ => some s
  | none, .refuse => none
  | none, .over => (rgI (due + 1) (dotI cs f - due).toNat ++ (rgI 0 due.toNat).reverse).findSome? (ruleI ch cs f)
  | none, _ => lessI ch cs f due
theorem find_paid_sem {cs f : List Int} (hc : Coins cs) (hf : Fill cs f) {a : Int} (ha : 0 ≤ a) (hA : a < 9000) (rs ws mo p0 : D) (ch : Ch) (un : Un) (lm : D) : F_find_paid.sem [mch cs rs ws mo p0 ch un lm, tI f, .int a] = .val (optD (paidI un ch cs f a)) := by
  have hl3 := hc.len
  rw [S_find_paid]
  have hr := fun b h0 h1 => by_rule_sem hc hf (a := b) h0 h1 rs ws mo p0 ch un lm
  have hw : ∀ s, F_find_worth.sem [mch cs rs ws mo p0 ch un lm, tI s] = .val (.int (dotI cs s)) := fun s => find_worth_sem hc _ s
  have hd := dot_le (cs := cs) (f := f) (fun c h => ⟨hc.pos c h, hc.top c h⟩) hf.rng
  have hnn : cmpD .IsNot .non .non = .val (.bl false) := rfl
  have htn : ∀ s, cmpD .IsNot (tI s) .non = .val (.bl true) := fun _ => rfl
  cases h0 : ruleI ch cs f a with
  | some s =>
    simp [B_find_paid, hr a ha (by omega), h0, noOwn, htn, paidI]
  | none =>
    have ha0 : 0 < a := by
      obtain ⟨s, hs⟩ := rule_zero hc hf ch
      by_cases h : a = 0
      · rw [h, hs] at h0; cases h0
      · omega
    have hls := less_than_sem hc hf ha0 (by omega) rs ws mo p0 ch un lm
    obtain ⟨s, hs⟩ := less_some hc hf ch ha0
    rw [hs] at hls
    cases un with
    | refuse =>
      have h1 := un_refuse .refuse
      simp [B_find_paid, hr a ha (by omega), h0, noOwn, hnn, paidI, ix_m4, ix_p2, h1]
    | short =>
      have h1 := un_refuse .short
      have h2 := un_over .short
      simp [B_find_paid, hr a ha (by omega), h0, noOwn, hnn, paidI, ix_m4, ix_p2, h1, h2, hls, hs]
    | keep =>
      have h1 := un_refuse .keep
      have h2 := un_over .keep
      simp [B_find_paid, hr a ha (by omega), h0, noOwn, hnn, paidI, ix_m4, ix_p2, h1, h2, hls, hs]
    | over =>
      have h1 := un_refuse .over
      have h2 := un_over .over
      have hrg : rngD [.int (a + 1), .int (dotI cs f + 1)] = .val (.lst ((rgI (a + 1) (dotI cs f - a).toNat).map .int)) := by
        rw [rng2 (by omega) (by omega) (by omega) (by omega)]
        congr 4
        omega
      have hb : big (dotI cs f - a).toNat = true := big_of (by omega)
      simp [B_find_paid, hr a ha (by omega), h0, noOwn, hnn, paidI, ix_m4, ix_p2, h1, h2, hw, hrg, hb]
      rw [lcGo_mapA (g := fun b => optD (ruleI ch cs f b))]
      · simp [noOwn, hb]
        rw [lcGo_filA (p := fun b => (ruleI ch cs f b).isSome) (g := fun b => optD (ruleI ch cs f b))]
        · rw [bind_val, fil_map]
          have hs' : List.findSome? (ruleI ch cs f) (rgI 0 a.toNat).reverse = some s := hs
          have hh := List.head?_filterMap (f := ruleI ch cs f) (l := rgI (a + 1) (dotI cs f - a).toNat)
          rw [← hh, hs']
          generalize (rgI (a + 1) (dotI cs f - a).toNat).filterMap (ruleI ch cs f) = L
          cases L with
          | nil => simp [noOwn, big, ne_self (d := .lst []) rfl (by decide), hls]
          | cons t L =>
            have := ne_ts (t :: L)
            rw [List.map_cons] at this
            have h3 : ixD (.lst (tI t :: L.map tI)) (.int 0) = .val (tI t) := at_0 _ _
            simp [noOwn, big, this, h3]
        · intro b _
          rw [lcF_if _ _ _ _ _ [some (mch cs rs ws mo p0 ch .over lm), some (tI f), some (.int a), some .non, some (.lst ((rgI (a + 1) (dotI cs f - a).toNat).map fun b => optD (ruleI ch cs f b))), none, none, some (optD (ruleI ch cs f b))] _ (by rfl) (by rfl)]
          simp [isn_opt]
          cases ruleI ch cs f b <;> simp
      · intro b hb
        have := mem_rgI.mp hb
        simp [wipe, hr b (by omega) (by omega)]
end LW

/-! machines: the checks, the draws -/
namespace LW
open CS
def isInt : D → Int → Int → Bool
  | .int i, lo, hi => decide (lo ≤ i) && decide (i ≤ hi)
  | _, _, _ => false
def typed : D → Bool := fun d => (tyNo d).isSome
theorem is_int_sem (d : D) (lo hi : Int) (h : typed d = true) : F_is_int.sem [d, .int lo, .int hi] = .val (.bl (isInt d lo hi)) := by
  rw [S_is_int]
  cases d with
  | int i =>
    simp [B_is_int, isiD, tyNo, isInt]
    by_cases h1 : lo ≤ i <;> simp [h1]
  | _ => simp [typed, tyNo] at h <;> simp [B_is_int, isiD, tyNo, isInt]
def areInts (d : D) (m lo hi : Int) : Bool := match d with
  | .tup xs => decide ((xs.length : Int) = m) && xs.all fun x => isInt x lo hi
  | _ => false
/-- a value whose items can be asked for their class -/
def asked (d : D) : Prop := typed d = true ∧ ∀ xs, d = .tup xs → xs.length ≤ 1000 ∧ ∀ x ∈ xs, typed x = true
theorem are_ints_sem (d : D) (m lo hi : Int) (h : asked d) : F_are_ints.sem [d, .int m, .int lo, .int hi] = .val (.bl (areInts d m lo hi)) := by
  obtain ⟨h, hx⟩ := h
  rw [S_are_ints]
  cases d with
  | tup xs =>
    obtain ⟨hl, hxs⟩ := hx xs rfl
    simp [B_are_ints, isiD, tyNo, areInts]
    rw [lcGo_map (g := fun x => .bl (isInt x lo hi))]
    · simp [big_of (show xs.length ≤ 16777216 by omega), all_map]
      by_cases h1 : (xs.length : Int) = m <;> simp [h1]
    · intro x hx'
      simp [wipe, is_int_sem x lo hi (hxs x hx')]
  | _ => simp [typed, tyNo] at h <;> simp [B_are_ints, isiD, tyNo, areInts]
def mach (cs rs ws : List D) (mo : Int) (pr : D) (ls : List D) : D := .tup [.tup cs, .tup rs, .tup ws, .int mo, pr, .tup ls]
theorem asked_ints {xs : List D} (hl : xs.length ≤ 1000) (h : ∀ x ∈ xs, ∃ i, x = .int i) : asked (.tup xs) := ⟨rfl, fun ys e => by
  cases e
  exact ⟨hl, fun x hx => by obtain ⟨i, rfl⟩ := h x hx; rfl⟩⟩
/-- a machine that the law draws -/
structure Mach (cs rs ws : List D) (mo : Int) (pr : D) (ls : List D) : Prop where
  wc : F_are_worths.sem [.tup cs, .int 3] = .val (.bl true)
  ww : F_are_worths.sem [.tup ws, .int 3] = .val (.bl true)
  pp : F_is_program.sem [pr] = .val (.bl true)
  ra : asked (.tup rs)
  ri : areInts (.tup rs) cs.length 0 4 = true
  la : asked (.tup ls)
  li : areInts (.tup ls) cs.length 0 5 = true
  mw : ∃ w, atD ws (-1) = .val (.int w) ∧ w ≤ mo ∧ mo ≤ 40
theorem is_machine_sem {cs rs ws : List D} {mo : Int} {pr : D} {ls : List D} (h : Mach cs rs ws mo pr ls) : F_is_machine.sem [mach cs rs ws mo pr ls] = .val (.bl true) := by
  rw [S_is_machine]
  obtain ⟨w, hw, h1, h2⟩ := h.mw
  simp [B_is_machine, mach, isiD, tyNo, asgO, bindE, flatT, setE, h.wc, h.ww, h.pp, are_ints_sem _ _ _ _ h.ra, are_ints_sem _ _ _ _ h.la, h.ri, h.li, D.flat, negD, ixD, hw, is_int_sem (.int mo) w 40 rfl, isInt, h1, h2]

theorem check_ok {m : D} (h : F_is_machine.sem [m] = .val (.bl true)) : F_check_machine.sem [m] = .val .non := by
  rw [S_check_machine]
  simp [B_check_machine, h]
theorem check_bad {m : D} (h : F_is_machine.sem [m] = .val (.bl false)) : F_check_machine.sem [m] = .exc 1 := by
  rw [S_check_machine]
  simp [B_check_machine, h]
noncomputable def dr (ns : List Int) (k m : Int) : Int := match F__law_drawn.sem [.scr ns, .int k, .int m] with
  | .val (.int i) => i
  | _ => 0
theorem dr_ok {ns : List Int} (hn : ns.length ≤ 63) (k m : Int) (hk : 0 ≤ k) (hm : 0 < m) : F__law_drawn.sem [.scr ns, .int k, .int m] = .val (.int (dr ns k m)) ∧ 0 ≤ dr ns k m ∧ dr ns k m < m := by
  obtain ⟨i, h, h0, h1⟩ := drawn_ok T__law_drawn ns k m hn hk hm
  have h' : F__law_drawn.sem [.scr ns, .int k, .int m] = .val (.int i) := h
  have e : dr ns k m = i := by
    unfold dr
    rw [h']
  rw [e]
  exact ⟨h', h0, h1⟩
theorem has_filling_bad {cs : List D} {v : D} {rest : List D} (ha : asked v) (hv : areInts v cs.length 0 4 = false) : F_has_filling.sem [.tup (.tup cs :: rest), v] = .val (.bl false) := by
  rw [S_has_filling]
  simp [B_has_filling, ix_tup, are_ints_sem _ _ _ _ ha, hv]
theorem zip_intsM : ∀ cs s : List Int, zipL (cs.map .int) (s.map .int) = (cs.zip s).map fun p => D.tup [.int p.1, .int p.2]
  | [], _ => by simp [zipL]
  | _ :: _, [] => by simp [zipL]
  | c :: cs, x :: s => by simp [zipL, zip_intsM cs s]
theorem lcGo_mapM {α : Type} {f : D → Res (Option D)} {h g : α → D} : ∀ {xs : List α}, (∀ x ∈ xs, f (h x) = .val (some (g x))) → lcGo f (xs.map h) = .val (xs.map g)
  | [], _ => rfl
  | x :: xs, e => by
    have h1 := e x (by simp)
    have h2 := lcGo_mapM (f := f) (h := h) (g := g) (xs := xs) fun y hy => e y (by simp [hy])
    simp only [List.map_cons, lcGo, h1, h2, bind_val]
def leI (f r : List Int) : Bool := (f.zip r).all fun p => decide (p.1 ≤ p.2)
theorem asked_tI (f : List Int) (h : f.length ≤ 1000) : asked (tI f) := asked_ints (by simpa using h) (by simp)
theorem areInts_tI (f : List Int) (m lo hi : Int) : areInts (tI f) m lo hi = (decide ((f.length : Int) = m) && f.all fun x => decide (lo ≤ x) && decide (x ≤ hi)) := by
  simp only [areInts, tI, List.all_map, List.length_map]
  rfl
theorem has_filling_sem {cs rs f : List Int} (hl : f.length ≤ 1000) (rest : List D) : F_has_filling.sem [.tup (tI cs :: tI rs :: rest), tI f] = .val (.bl (areInts (tI f) cs.length 0 4 && leI f rs)) := by
  rw [S_has_filling]
  have ha := asked_tI f hl
  have h0 : ixD (.tup (tI cs :: tI rs :: rest)) (.int 0) = .val (tI cs) := at_0 _ _
  have h1 : ixD (.tup (tI cs :: tI rs :: rest)) (.int 1) = .val (tI rs) := at_1 _ _ _
  have hln : b1D .len (tI cs) = .val (.int (cs.length : Int)) := by
    show Res.val (D.int ((cs.map D.int).length : Int)) = _
    rw [List.length_map]
  have hb : big (min f.length rs.length) = true := big_of (by omega)
  have hz : zipD [tI f, tI rs] = .val (.lst ((f.zip rs).map fun p => D.tup [.int p.1, .int p.2])) := by
    simp [zipD, tI, zip_intsM]
  cases hA : areInts (tI f) cs.length 0 4 with
  | false => simp [B_has_filling, h0, hln, are_ints_sem _ _ _ _ ha, hA]
  | true =>
    simp [B_has_filling, h0, h1, hln, are_ints_sem _ _ _ _ ha, hA, hz, hb]
    rw [lcGo_mapM (g := fun p : Int × Int => D.bl (decide (p.1 ≤ p.2)))]
    · simp [all_map, leI]
    · intro p _
      simp [lcF, bindT, flatT, setR, wipe]
/-- a drawn filling: each count is at most the room -/
theorem fill_go (f : D → Res (Option D)) : ∀ (rs : List Int) (k : Nat), (∀ (j : Nat) (r : Int), rs[j]? = some r → ∃ x, f (.tup [.int ((k + j : Nat) : Int), .int r]) = .val (some (.int x)) ∧ 0 ≤ x ∧ x ≤ r) →
    ∃ fs : List Int, lcGo f (enmL k (rs.map .int)) = .val (fs.map .int) ∧ fs.length = rs.length ∧ leI fs rs = true ∧ ∀ x ∈ fs, 0 ≤ x
  | [], k, _ => ⟨[], rfl, rfl, rfl, by simp⟩
  | r :: rs, k, h => by
    obtain ⟨x, e, h0, h1⟩ := h 0 r (by simp)
    obtain ⟨fs, i1, i2, i3, i4⟩ := fill_go f rs (k + 1) fun j r' hr => by
      have := h (j + 1) r' (by simpa using hr)
      rwa [show k + 1 + j = k + (j + 1) by omega]
    refine ⟨x :: fs, ?_, by simp [i2], ?_, ?_⟩
    · simp only [List.map_cons, enmL]
      rw [Nat.add_zero] at e
      rw [lcGo_step _ _ _ _ e]
      have : ((k : Int) + 1) = ((k + 1 : Nat) : Int) := by simp
      rw [this, i1]
      rfl
    · unfold leI at i3 ⊢
      rw [List.zip_cons_cons, List.all_cons, i3]
      simp [h1]
    · intro y hy
      rcases List.mem_cons.mp hy with rfl | hy
      · exact h0
      · exact i4 y hy
theorem le_bound : ∀ {f r : List Int}, f.length = r.length → leI f r = true → (∀ x ∈ r, x ≤ 4) → ∀ x ∈ f, x ≤ 4
  | [], _, _, _, _ => by simp
  | _ :: _, [], h, _, _ => by simp at h
  | x :: f, y :: r, hl, h, hr => by
    unfold leI at h
    rw [List.zip_cons_cons, List.all_cons, Bool.and_eq_true] at h
    have h1 := of_decide_eq_true h.1
    have h2 := hr y (by simp)
    intro z hz
    rcases List.mem_cons.mp hz with rfl | hz
    · simp only at h1; omega
    · exact le_bound (f := f) (r := r) (by simpa using hl) h.2 (fun w hw => hr w (by simp [hw])) z hz
theorem law_filling_sem {ns : List Int} (hn : ns.length ≤ 63) (at' : Int) (ha : 0 ≤ at') (m0 : D) (rs : List Int) (rest : List D) (hr : ∀ x ∈ rs, 0 ≤ x ∧ x ≤ 4) (hl : rs.length ≤ 1000) : ∃ f : List Int, F__law_filling.sem [.scr ns, .int at', .tup (m0 :: tI rs :: rest)] = .val (tI f) ∧ f.length = rs.length ∧ leI f rs = true ∧ ∀ x ∈ f, 0 ≤ x ∧ x ≤ 4 := by
  rw [S__law_filling]
  have h1 : ixD (.tup (m0 :: tI rs :: rest)) (.int 1) = .val (tI rs) := at_1 _ _ _
  have hit : itemsD (tI rs) = .val (rs.map .int) := rfl
  have hb : ∀ k, (enmL k (rs.map .int)).length = rs.length := by
    intro k
    have : ∀ (xs : List D) (k : Int), (enmL k xs).length = xs.length := by
      intro xs
      induction xs with
      | nil => intro k; rfl
      | cons x xs ih => intro k; simp [enmL, ih]
    rw [this, List.length_map]
  have hbg : big rs.length = true := big_of (by omega)
  obtain ⟨f, e1, e2, e3, e4⟩ := fill_go (lcF T__law_filling (.call 0 (.acons (.var 0) (.acons (.bin .Add (.var 1) (.var 3)) (.acons (.bin .Add (.var 4) (.int 1)) .anil)))) (.tup (.cons (.nm 3) (.cons (.nm 4) .nil))) .anil (wipe [some (.scr ns), some (.int at'), some (.tup (m0 :: tI rs :: rest)), none, none] [3, 4])) rs 0 fun j r hj => by
    have hr' := hr r (List.mem_of_getElem? hj)
    obtain ⟨d1, d2, d3⟩ := dr_ok hn (at' + ((0 + j : Nat) : Int)) (r + 1) (by omega) (by omega)
    refine ⟨dr ns (at' + ((0 + j : Nat) : Int)) (r + 1), ?_, d2, by omega⟩
    rw [lcF_tup0 _ _ _ _ [some (.scr ns), some (.int at'), some (.tup (m0 :: tI rs :: rest)), some (.int ((0 + j : Nat) : Int)), some (.int r)] _ (by rfl)]
    simp only [evq_call, evq_acons, evq_anil, evq_bin, evq_var, evq_int, List.getElem?_cons_zero, List.getElem?_cons_succ, varR_some, bind_val, bin_addI, argsD_lst, callF_eq, T__law_filling_0, callO_some, P__law_drawn, d1]
    rfl
  refine ⟨f, ?_, e2, e3, fun x hx => ⟨e4 x hx, le_bound e2 e3 (fun y hy => (hr y hy).2) x hx⟩⟩
  simp [B__law_filling, h1, hit, hb, hbg]
  have e1' : lcGo _ (enmL 0 (rs.map .int)) = _ := e1
  rw [e1']
  simp [tI]
end LW

/-! paying: the functions that check their arguments -/
namespace LW
open CS
theorem check_filling_ok {m f : D} (h : F_has_filling.sem [m, f] = .val (.bl true)) : F_check_filling.sem [m, f] = .val .non := by
  rw [S_check_filling]
  simp [B_check_filling, h]
theorem check_paying_ok {m f : D} (hm : F_is_machine.sem [m] = .val (.bl true)) (h : F_has_filling.sem [m, f] = .val (.bl true)) : F_check_paying.sem [m, f] = .val .non := by
  rw [S_check_paying]
  simp [B_check_paying, check_ok hm, check_filling_ok h]
theorem check_paying_badm {m f : D} (hm : F_is_machine.sem [m] = .val (.bl false)) : F_check_paying.sem [m, f] = .exc 1 := by
  rw [S_check_paying]
  simp [B_check_paying, check_bad hm]
theorem check_amount_ok (d : D) (h : typed d = true) (hi : isInt d 0 40 = true) : F_check_amount.sem [d] = .val .non := by
  rw [S_check_amount]
  simp [B_check_amount, is_int_sem d 0 40 h, hi]
/-- a call after the checks -/
theorem pay_ok {m f a : D} (h1 : F_check_paying.sem [m, f] = .val .non) (h2 : F_check_amount.sem [a] = .val .non) : F_payment.sem [m, f, a] = F_by_rule.sem [m, f, a] ∧ F_paid.sem [m, f, a] = F_find_paid.sem [m, f, a] := by
  constructor
  · rw [S_payment]
    simp [B_payment, h1, h2]
    cases F_by_rule.sem [m, f, a] <;> rfl
  · rw [S_paid]
    simp [B_paid, h1, h2]
    cases F_find_paid.sem [m, f, a] <;> rfl
theorem payments_sem {cs f : List Int} (hc : Coins cs) (hf : Fill cs f) {a : Int} (ha : 0 ≤ a) (hA : a < 1000) (rest : List D) (h1 : F_check_paying.sem [.tup (tI cs :: rest), tI f] = .val .non) (h2 : F_check_amount.sem [.int a] = .val .non) : F_payments.sem [.tup (tI cs :: rest), tI f, .int a] = .val (.lst ((payI cs f a).map tI)) := by
  rw [S_payments]
  have hp := find_payments_sem hc hf.len hf.rng ha (by omega)
  have h0 : ixD (.tup (tI cs :: rest)) (.int 0) = .val (tI cs) := at_0 _ _
  simp [B_payments, h1, h2, h0, hp, isFresh]
  rfl
theorem payable_sem {cs f : List Int} (hc : Coins cs) (hf : Fill cs f) (rs ws mo p0 : D) (ch : Ch) (un : Un) (lm : D) (h1 : F_check_paying.sem [mch cs rs ws mo p0 ch un lm, tI f] = .val .non) : F_payable.sem [mch cs rs ws mo p0 ch un lm, tI f] = .val (.lst (((rgI 0 41).filter fun b => (ruleI ch cs f b).isSome).map .int)) := by
  rw [S_payable]
  have hr := fun b h0 h1 => by_rule_sem hc hf (a := b) h0 h1 rs ws mo p0 ch un lm
  have hrg : rngD [.int 41] = .val (.lst ((rgI 0 41).map .int)) := rng1 (by decide) (by decide)
  have hb : big 41 = true := by decide
  simp [B_payable, h1, hrg, hb]
  rw [lcGo_filA (p := fun b => (ruleI ch cs f b).isSome) (g := .int)]
  · simp [isFresh]
  · intro b hb
    have := mem_rgI.mp hb
    rw [lcF_if _ _ _ _ _ [some (mch cs rs ws mo p0 ch un lm), some (tI f), some (.int b)] _ (by rfl) (by rfl)]
    simp [hr b (by omega) (by omega), isn_opt]
    cases ruleI ch cs f b <;> simp
theorem exc_all {m f a : D} {k : Nat} (h1 : F_check_paying.sem [m, f] = .exc k) : F_payments.sem [m, f, a] = .exc k ∧ F_payment.sem [m, f, a] = .exc k ∧ F_paid.sem [m, f, a] = .exc k ∧ F_payable.sem [m, f] = .exc k := by
  refine ⟨?_, ?_, ?_, ?_⟩
  · rw [S_payments]; simp [B_payments, h1]
  · rw [S_payment]; simp [B_payment, h1]
  · rw [S_paid]; simp [B_paid, h1]
  · rw [S_payable]; simp [B_payable, h1]
theorem exc_amt {m f a : D} {k : Nat} (h1 : F_check_paying.sem [m, f] = .val .non) (h2 : F_check_amount.sem [a] = .exc k) : F_payments.sem [m, f, a] = .exc k ∧ F_payment.sem [m, f, a] = .exc k ∧ F_paid.sem [m, f, a] = .exc k := by
  refine ⟨?_, ?_, ?_⟩
  · rw [S_payments]; simp [B_payments, h1, h2]
  · rw [S_payment]; simp [B_payment, h1, h2]
  · rw [S_paid]; simp [B_paid, h1, h2]
end LW

/-! drawn machines -/
namespace LW
open CS
inductive Ca where | any | same
def Ca.s : Ca → PySem.Str
  | .any => "any" | .same => "same"
theorem ca_same : ∀ ca : Ca, cmpD .Eq (.str ca.s) (.str "same") = .val (.bl (match ca with | .same => true | _ => false))
  | .any => by kernel_rfl
  | .same => by kernel_rfl
theorem ca_any : ∀ ca : Ca, cmpD .Eq (.str ca.s) (.str "any") = .val (.bl (match ca with | .any => true | _ => false))
  | .any => by kernel_rfl
  | .same => by kernel_rfl
def zerosI (n : Nat) : List Int := List.replicate n 0
theorem len_tI (a : List Int) : b1D .len (tI a) = .val (.int (a.length : Int)) := by
  show Res.val (D.int ((a.map D.int).length : Int)) = _
  rw [List.length_map]
/-- a machine and what acting looks at -/
def ma (cs rs ws : List Int) (mo : Int) (ca : Ca) (ch : Ch) (un : Un) (lm : List Int) : D := mch cs (tI rs) (tI ws) (.int mo) (.str ca.s) ch un (tI lm)
section
variable {cs rs ws : List Int} {mo : Int} {ca : Ca} {ch : Ch} {un : Un} {lm : List Int}
theorem ma_0 : ixD (ma cs rs ws mo ca ch un lm) (.int 0) = .val (tI cs) := rfl
theorem ma_1 : ixD (ma cs rs ws mo ca ch un lm) (.int 1) = .val (tI rs) := rfl
theorem ma_2 : ixD (ma cs rs ws mo ca ch un lm) (.int 2) = .val (tI ws) := rfl
theorem ma_3 : ixD (ma cs rs ws mo ca ch un lm) (.int 3) = .val (.int mo) := rfl
theorem ma_4 : ixD (ma cs rs ws mo ca ch un lm) (.int 4) = .val (.tup [.str ca.s, .str ch.s, .str un.s]) := rfl
theorem ix_p0 (a b c : D) : ixD (.tup [a, b, c]) (.int 0) = .val a := rfl
end
/-- rooms and wares as the law has them -/
structure Mac (cs rs ws : List Int) (mo : Int) : Prop where
  co : Coins cs
  l0 : 0 < cs.length
  rl : rs.length = cs.length
  rr : ∀ x ∈ rs, 0 ≤ x ∧ x ≤ 4
  wp : ∀ w ∈ ws, 0 < w
  m4 : mo ≤ 40
theorem rgn (n : Nat) (h : n ≤ 1000) : rngD [.int (n : Int)] = .val (.lst ((rgI 0 n).map .int)) := by
  rw [rng1 (by omega) (by omega), Int.toNat_natCast]
theorem draws_go {ns : List Int} (hn : ns.length ≤ 63) (b m : Int) (hb : 0 ≤ b) (hm : 0 < m) : ∀ (n : Nat) (lo : Int), 0 ≤ lo → ∃ rs : List Int, (∀ (f : D → Res (Option D)), (∀ k : Int, lo ≤ k → f (.int k) = .val (some (.int (dr ns (b + k) m)))) → lcGo f ((rgI lo n).map .int) = .val (rs.map .int)) ∧ rs.length = n ∧ ∀ x ∈ rs, 0 ≤ x ∧ x < m
  | 0, lo, _ => ⟨[], fun _ _ => rfl, rfl, by simp⟩
  | n + 1, lo, h => by
    obtain ⟨rs, e1, e2, e3⟩ := draws_go hn b m hb hm n (lo + 1) (by omega)
    have hd := (dr_ok hn (b + lo) m (by omega) hm).2
    refine ⟨dr ns (b + lo) m :: rs, ?_, by simp [e2], ?_⟩
    · intro f hf
      simp only [rgI, List.map_cons]
      rw [lcGo_step _ _ _ _ (hf lo (by omega)), e1 f (fun k hk => hf k (by omega))]
      rfl
    · intro x hx
      rcases List.mem_cons.mp hx with rfl | hx
      · omega
      · exact e3 x hx
theorem raw_coins {cs : List Int} (h : cs = [1, 2] ∨ cs = [1, 3] ∨ cs = [2, 3] ∨ cs = [2] ∨ cs = [2, 5]) : Coins cs ∧ 0 < cs.length ∧ cs.length ≤ 2 := by
  rcases h with rfl | rfl | rfl | rfl | rfl <;> exact ⟨⟨by decide, by decide, by decide, by decide⟩, by decide, by decide⟩
theorem raw_ma {ns : List Int} (hn : ns.length ≤ 63) : ∃ (cs rs ws : List Int) (mo : Int) (ca : Ca) (ch : Ch) (un : Un) (lm : List Int), F__law_raw.sem [.scr ns, .int 10] = .val (ma cs rs ws mo ca ch un lm) ∧ Mac cs rs ws mo ∧ cs.length ≤ 2 ∧ 0 < ws.length ∧ ws.length ≤ 2 ∧ 0 ≤ mo ∧ (∀ (ch' : Ch) (un' : Un), F_is_machine.sem [ma cs rs ws mo ca ch' un' lm] = .val (.bl true)) ∧ lm.length = cs.length ∧ (cs = [1, 2] ∨ cs = [1, 3] ∨ cs = [2, 3] ∨ cs = [2] ∨ cs = [2, 5]) ∧ (ws = [3] ∨ ws = [4] ∨ ws = [2, 5] ∨ ws = [1] ∨ ws = [5] ∨ ws = [3, 4]) ∧ mo ≤ 7 ∧ (∀ x ∈ rs, x < 3) ∧ (∀ x ∈ lm, 0 ≤ x ∧ x < 3) := by
  have dd := fun k m hk hm => (dr_ok hn k m hk hm).1
  have b := fun k m hk hm => (dr_ok hn k m hk hm).2
  have hC : ∃ cs : List Int, ixD (.lst [.tup [.int 1, .int 2], .tup [.int 1, .int 3], .tup [.int 2, .int 3], .tup [.int 2], .tup [.int 1, .int 2], .tup [.int 2, .int 5]]) (.int (dr ns 10 6)) = .val (tI cs) ∧ F_are_worths.sem [tI cs, .int 3] = .val (.bl true) ∧ (cs = [1, 2] ∨ cs = [1, 3] ∨ cs = [2, 3] ∨ cs = [2] ∨ cs = [2, 5]) := by
    have := b 10 6 (by decide) (by decide)
    have h : dr ns 10 6 = 0 ∨ dr ns 10 6 = 1 ∨ dr ns 10 6 = 2 ∨ dr ns 10 6 = 3 ∨ dr ns 10 6 = 4 ∨ dr ns 10 6 = 5 := by omega
    rcases h with h | h | h | h | h | h <;> rw [h]
    · exact ⟨[1, 2], rfl, by kernel_rfl, by simp⟩
    · exact ⟨[1, 3], rfl, by kernel_rfl, by simp⟩
    · exact ⟨[2, 3], rfl, by kernel_rfl, by simp⟩
    · exact ⟨[2], rfl, by kernel_rfl, by simp⟩
    · exact ⟨[1, 2], rfl, by kernel_rfl, by simp⟩
    · exact ⟨[2, 5], rfl, by kernel_rfl, by simp⟩
  have hW : ∃ (ws : List Int) (w : Int), ixD (.lst [.tup [.int 3], .tup [.int 4], .tup [.int 2, .int 5], .tup [.int 1], .tup [.int 5], .tup [.int 3, .int 4]]) (.int (dr ns 14 6)) = .val (tI ws) ∧ F_are_worths.sem [tI ws, .int 3] = .val (.bl true) ∧ atD (ws.map .int) (-1) = .val (.int w) ∧ 0 < w ∧ w ≤ 5 ∧ (∀ x ∈ ws, 0 < x) ∧ 0 < ws.length ∧ ws.length ≤ 2 ∧ (ws = [3] ∨ ws = [4] ∨ ws = [2, 5] ∨ ws = [1] ∨ ws = [5] ∨ ws = [3, 4]) := by
    have := b 14 6 (by decide) (by decide)
    have h : dr ns 14 6 = 0 ∨ dr ns 14 6 = 1 ∨ dr ns 14 6 = 2 ∨ dr ns 14 6 = 3 ∨ dr ns 14 6 = 4 ∨ dr ns 14 6 = 5 := by omega
    rcases h with h | h | h | h | h | h <;> rw [h]
    · exact ⟨[3], 3, rfl, by kernel_rfl, rfl, by decide, by decide, by decide, by decide, by decide, by simp⟩
    · exact ⟨[4], 4, rfl, by kernel_rfl, rfl, by decide, by decide, by decide, by decide, by decide, by simp⟩
    · exact ⟨[2, 5], 5, rfl, by kernel_rfl, rfl, by decide, by decide, by decide, by decide, by decide, by simp⟩
    · exact ⟨[1], 1, rfl, by kernel_rfl, rfl, by decide, by decide, by decide, by decide, by decide, by simp⟩
    · exact ⟨[5], 5, rfl, by kernel_rfl, rfl, by decide, by decide, by decide, by decide, by decide, by simp⟩
    · exact ⟨[3, 4], 4, rfl, by kernel_rfl, rfl, by decide, by decide, by decide, by decide, by decide, by simp⟩
  have hA : ∃ ca : Ca, ixD (.lst [.str "any", .str "same"]) (.int (dr ns 15 2)) = .val (.str ca.s) := by
    have := b 15 2 (by decide) (by decide)
    have h : dr ns 15 2 = 0 ∨ dr ns 15 2 = 1 := by omega
    rcases h with h | h <;> rw [h]
    · exact ⟨.any, rfl⟩
    · exact ⟨.same, rfl⟩
  have hG : ∃ ch : Ch, ixD (.lst [.str "great", .str "few", .str "full"]) (.int (dr ns 16 3)) = .val (.str ch.s) := by
    have := b 16 3 (by decide) (by decide)
    have h : dr ns 16 3 = 0 ∨ dr ns 16 3 = 1 ∨ dr ns 16 3 = 2 := by omega
    rcases h with h | h | h <;> rw [h]
    · exact ⟨.great, rfl⟩
    · exact ⟨.few, rfl⟩
    · exact ⟨.full, rfl⟩
  have hU : ∃ un : Un, ixD (.lst [.str "refuse", .str "short", .str "keep", .str "over"]) (.int (dr ns 17 4)) = .val (.str un.s) := by
    have := b 17 4 (by decide) (by decide)
    have h : dr ns 17 4 = 0 ∨ dr ns 17 4 = 1 ∨ dr ns 17 4 = 2 ∨ dr ns 17 4 = 3 := by omega
    rcases h with h | h | h | h <;> rw [h]
    · exact ⟨.refuse, rfl⟩
    · exact ⟨.short, rfl⟩
    · exact ⟨.keep, rfl⟩
    · exact ⟨.over, rfl⟩
  obtain ⟨cs, c1, c2, c3⟩ := hC
  obtain ⟨ws, w, w1, w2, w3, w4, w5, w6, w7, w8, w9⟩ := hW
  obtain ⟨ca, a1⟩ := hA
  obtain ⟨ch, g1⟩ := hG
  obtain ⟨un, u1⟩ := hU
  obtain ⟨hc, hl0, hl2⟩ := raw_coins c3
  have hl3 := hc.len
  obtain ⟨rs, r1, r2, r3⟩ := draws_go hn 11 3 (by decide) (by decide) cs.length 0 (by decide)
  obtain ⟨lm, l1, l2, l3⟩ := draws_go hn 18 3 (by decide) (by decide) cs.length 0 (by decide)
  have d21 := b 21 3 (by decide) (by decide)
  have hpr : ∀ (ch : Ch) (un : Un), F_is_program.sem [.tup [.str ca.s, .str ch.s, .str un.s]] = .val (.bl true) := by
    intro ch un
    cases ca <;> cases ch <;> cases un <;> kernel_rfl
  have hMa : ∀ (ch : Ch) (un : Un), Mach (cs.map .int) (rs.map .int) (ws.map .int) (w + dr ns 21 3) (.tup [.str ca.s, .str ch.s, .str un.s]) (lm.map .int) := by
    intro ch un
    refine ⟨c2, w2, hpr ch un, asked_tI rs (by omega), ?_, asked_tI lm (by omega), ?_, w, w3, by omega, by omega⟩
    · have := areInts_tI rs (cs.map D.int).length 0 4
      rw [show areInts (.tup (rs.map .int)) _ 0 4 = _ from this]
      simp only [Bool.and_eq_true, decide_eq_true_eq, List.all_eq_true, List.length_map]
      exact ⟨by rw [r2], fun x hx => by have := r3 x hx; omega⟩
    · have := areInts_tI lm (cs.map D.int).length 0 5
      rw [show areInts (.tup (lm.map .int)) _ 0 5 = _ from this]
      simp only [Bool.and_eq_true, decide_eq_true_eq, List.all_eq_true, List.length_map]
      exact ⟨by rw [l2], fun x hx => by have := l3 x hx; omega⟩
  refine ⟨cs, rs, ws, w + dr ns 21 3, ca, ch, un, lm, ?_, ⟨hc, hl0, r2, fun x hx => by have := r3 x hx; omega, w6, by omega⟩, hl2, w7, w8, by omega, fun ch un => is_machine_sem (hMa ch un), l2, c3, w9, by omega, fun x hx => (r3 x hx).2, l3⟩
  rw [S__law_raw]
  have hb : cs.length ≤ 16777216 := by omega
  have hx : ixD (tI ws) (.int (-1)) = .val (.int w) := w3
  have hrg := rgn cs.length (by omega)
  simp [B__law_raw, big, dd, c1, len_tI, hrg, hb, noOwn]
  rw [r1 _ (fun k hk => by
    simp [wipe, dd (11 + k) 3 (by omega) (by decide)])]
  simp [noOwn, dd, w1, a1, g1, u1, big, len_tI, hrg, hb]
  rw [l1 _ (fun k hk => by
    simp [wipe, dd (18 + k) 3 (by omega) (by decide)])]
  simp [noOwn, negD, hx, dd, big]
  rfl
end LW

/-! counts, item by item -/
namespace LW
open CS
def LeL : List Int → List Int → Prop
  | [], [] => True
  | x :: a, y :: b => x ≤ y ∧ LeL a b
  | _, _ => False
theorem LeL.len : ∀ {a b : List Int}, LeL a b → a.length = b.length
  | [], [], _ => rfl
  | [], _ :: _, h => h.elim
  | _ :: _, [], h => h.elim
  | x :: a, y :: b, h => by simp [LeL.len h.2]
theorem LeL.le : ∀ {a b : List Int}, LeL a b → leI a b = true
  | [], [], _ => rfl
  | [], _ :: _, h => h.elim
  | _ :: _, [], h => h.elim
  | x :: a, y :: b, h => by
    have := LeL.le h.2
    unfold leI at this ⊢
    rw [List.zip_cons_cons, List.all_cons, this]
    simp [h.1]
theorem LeL.of : ∀ {a b : List Int}, a.length = b.length → leI a b = true → LeL a b
  | [], [], _, _ => trivial
  | [], _ :: _, h, _ => by simp at h
  | _ :: _, [], h, _ => by simp at h
  | x :: a, y :: b, hl, h => by
    unfold leI at h
    rw [List.zip_cons_cons, List.all_cons, Bool.and_eq_true] at h
    exact ⟨of_decide_eq_true h.1, LeL.of (by simpa using hl) h.2⟩
theorem LeL.trans : ∀ {a b c : List Int}, LeL a b → LeL b c → LeL a c
  | [], [], [], _, _ => trivial
  | x :: a, y :: b, z :: c, h, h' => ⟨Int.le_trans h.1 h'.1, LeL.trans h.2 h'.2⟩
  | [], [], _ :: _, _, h => h.elim
  | [], _ :: _, _, h, _ => h.elim
  | _ :: _, [], _, h, _ => h.elim
  | _ :: _, _ :: _, [], _, h => h.elim
theorem LeL.refl : ∀ a : List Int, LeL a a
  | [] => trivial
  | x :: a => ⟨Int.le_refl _, LeL.refl a⟩
theorem LeL.top {n : Int} : ∀ {a b : List Int}, LeL a b → (∀ y ∈ b, y ≤ n) → ∀ x ∈ a, x ≤ n
  | [], _, _, _ => by simp
  | _ :: _, [], h, _ => h.elim
  | x :: a, y :: b, h, hb => by
    intro z hz
    rcases List.mem_cons.mp hz with rfl | hz
    · have := hb y (by simp)
      have := h.1
      omega
    · exact LeL.top h.2 (fun w hw => hb w (by simp [hw])) z hz
theorem sub_le : ∀ {f s : List Int}, LeL s f → (∀ x ∈ s, 0 ≤ x) → LeL (subI f s) f ∧ ∀ x ∈ subI f s, 0 ≤ x
  | [], [], _, _ => ⟨trivial, by simp [subI]⟩
  | [], _ :: _, h, _ => h.elim
  | _ :: _, [], h, _ => h.elim
  | y :: f, x :: s, h, hs => by
    obtain ⟨i1, i2⟩ := sub_le h.2 (fun z hz => hs z (by simp [hz]))
    have h0 := hs x (by simp)
    have h1 := h.1
    refine ⟨⟨by simp only; omega, i1⟩, ?_⟩
    intro z hz
    rcases List.mem_cons.mp hz with rfl | hz
    · simp only; omega
    · exact i2 z hz
theorem lp_le {fu : Bool} {cs : List Int} : ∀ {n : Nat} {gs : List Int} {a : Int}, (∀ g ∈ gs, 0 ≤ g) → LeL (lp fu cs n gs a).1 gs ∧ ∀ g ∈ (lp fu cs n gs a).1, 0 ≤ g
  | 0, gs, a, h => ⟨LeL.refl _, h⟩
  | n + 1, gs, a, h => by
    unfold lp
    split
    · exact ⟨LeL.refl _, h⟩
    · rename_i gs' a' e
      obtain ⟨j, c, g, h1, h2, h3, h4, rfl, rfl⟩ := stp_some e
      have hset : ∀ {gs : List Int} {j : Nat} {g : Int}, gs[j]? = some g → LeL (gs.set j (g - 1)) gs := by
        intro gs
        induction gs with
        | nil => intro j g h; simp at h
        | cons x gs ih =>
          intro j g h
          cases j with
          | zero =>
            simp at h
            subst h
            exact ⟨by omega, LeL.refl _⟩
          | succ j => exact ⟨Int.le_refl _, ih (by simpa using h)⟩
      obtain ⟨i1, i2⟩ := lp_le (fu := fu) (cs := cs) (n := n) (gs := gs.set j (g - 1)) (a := a - c) (fun x hx => by
        rcases List.mem_or_eq_of_mem_set hx with hx | rfl
        · exact h x hx
        · omega)
      exact ⟨i1.trans (hset h2), i2⟩
theorem pay_le : ∀ {cs f : List Int} {a : Int} {s : List Int}, cs.length = f.length → s ∈ payI cs f a → LeL s f ∧ ∀ x ∈ s, 0 ≤ x
  | [], [], a, s, _, h => by
    simp only [payI] at h
    split at h
    · simp at h; subst h; exact ⟨trivial, by simp⟩
    · cases h
  | [], _ :: _, _, _, hl, _ => by simp at hl
  | _ :: _, [], _, _, hl, _ => by simp at hl
  | c :: cs, x :: f, a, s, hl, h => by
    simp only [payI, List.mem_flatMap, List.mem_map] at h
    obtain ⟨m, hm, t, ht, rfl⟩ := h
    obtain ⟨i1, i2⟩ := pay_le (by simpa using hl) ht
    have hm' := mem_rgI.mp hm
    have hmx : m ≤ x := by unfold minI at hm'; split at hm' <;> omega
    refine ⟨⟨hmx, i1⟩, ?_⟩
    intro z hz
    rcases List.mem_cons.mp hz with rfl | hz
    · exact hm'.1
    · exact i2 z hz
theorem few_mem {ss : List (List Int)} {s : List Int} (h : fewI ss = some s) : s ∈ ss := by
  have key : ∀ (ss : List (List Int)) (s : List Int), ss.foldl (fun a y => if ltD (rowD y) (rowD a) then y else a) s ∈ s :: ss := by
    intro ss
    induction ss with
    | nil => intro s; simp
    | cons t ss ih =>
      intro s
      rw [List.foldl_cons]
      have := ih (if ltD (rowD t) (rowD s) then t else s)
      revert this
      split <;> intro this <;> rcases List.mem_cons.mp this with h | h <;> simp [h]
  cases ss with
  | nil => cases h
  | cons t ss =>
    cases h
    exact key ss t
theorem rule_le {ch : Ch} {cs f : List Int} {a : Int} {s : List Int} (hf : Fill cs f) (h : ruleI ch cs f a = some s) : LeL s f ∧ ∀ x ∈ s, 0 ≤ x := by
  have co : ∀ fu, coinI fu cs f a = some s → LeL s f ∧ ∀ x ∈ s, 0 ≤ x := by
    intro fu h
    unfold coinI at h
    split at h
    · cases h
      obtain ⟨i1, i2⟩ := lp_le (fu := fu) (cs := cs) (n := a.toNat) (gs := f) (a := a) hf.nn
      exact sub_le i1 i2
    · cases h
  cases ch with
  | great => exact co _ h
  | full => exact co _ h
  | few => exact pay_le hf.len (few_mem h)
theorem paid_le {un : Un} {ch : Ch} {cs f : List Int} {a : Int} {s : List Int} (hf : Fill cs f) (h : paidI un ch cs f a = some s) : LeL s f ∧ ∀ x ∈ s, 0 ≤ x := by
  have fs : ∀ (L : List Int), L.findSome? (ruleI ch cs f) = some s → LeL s f ∧ ∀ x ∈ s, 0 ≤ x := by
    intro L hL
    obtain ⟨b, _, hb⟩ := List.exists_of_findSome?_eq_some hL
    exact rule_le hf hb
  cases h0 : ruleI ch cs f a with
  | some t =>
    simp only [paidI, h0] at h
    cases h
    exact rule_le hf h0
  | none =>
    cases un with
    | refuse => simp only [paidI, h0] at h; cases h
    | short => simp only [paidI, h0] at h; exact fs _ h
    | keep => simp only [paidI, h0] at h; exact fs _ h
    | over => simp only [paidI, h0] at h; exact fs _ h
theorem dotI_zeros : ∀ (cs : List Int) (n : Nat), dotI cs (zerosI n) = 0
  | [], _ => by simp [dotI]
  | _ :: _, 0 => by simp [dotI, zerosI]
  | c :: cs, n + 1 => by
    have := dotI_zeros cs n
    simp only [zerosI] at this
    simp [zerosI, List.replicate_succ, dotI, this]
end LW

/-! payments: in order, of the worth, in the tubes; the rule pays by one of them -/
namespace LW
open CS
theorem rg_pw : ∀ (n : Nat) (lo : Int), (rgI lo n).Pairwise (· < ·)
  | 0, _ => List.Pairwise.nil
  | n + 1, lo => by
    refine List.pairwise_cons.mpr ⟨fun x hx => ?_, rg_pw n (lo + 1)⟩
    have := mem_rgI.mp hx
    omega
theorem prod_le : ∀ {fs s : List Int}, s ∈ prodI fs → LeL s fs ∧ ∀ x ∈ s, 0 ≤ x
  | [], s, h => by
    simp [prodI] at h
    subst h
    exact ⟨trivial, by simp⟩
  | f :: fs, s, h => by
    simp only [prodI, List.mem_flatMap, List.mem_map] at h
    obtain ⟨m, hm, t, ht, rfl⟩ := h
    obtain ⟨h1, h2⟩ := prod_le ht
    have := mem_rgI.mp hm
    refine ⟨⟨by omega, h1⟩, ?_⟩
    intro x hx
    rcases List.mem_cons.mp hx with rfl | hx
    · exact this.1
    · exact h2 x hx
theorem mem_prod : ∀ {fs s : List Int}, LeL s fs → (∀ x ∈ s, 0 ≤ x) → s ∈ prodI fs
  | [], [], _, _ => by simp [prodI]
  | [], _ :: _, h, _ => h.elim
  | _ :: _, [], h, _ => h.elim
  | f :: fs, x :: s, h, hs => by
    simp only [prodI, List.mem_flatMap, List.mem_map]
    have h0 := hs x (by simp)
    have h1 := h.1
    exact ⟨x, mem_rgI.mpr ⟨by omega, by omega⟩, s, mem_prod h.2 (fun z hz => hs z (by simp [hz])), rfl⟩
theorem prod_bd {fs s : List Int} (hf : ∀ f ∈ fs, f ≤ 4) (h : s ∈ prodI fs) : TS.Bd 64 s := fun m hm => by
  obtain ⟨h1, h2⟩ := prod_le h
  have := h1.top hf m hm
  exact ⟨h2 m hm, by omega⟩
theorem prod_pw : ∀ {fs : List Int}, (∀ f ∈ fs, f ≤ 4) → (prodI fs).Pairwise fun a b => TS.code 64 a < TS.code 64 b
  | [], _ => by simp [prodI]
  | f :: fs, hf => by
    have ih := prod_pw (fs := fs) fun x hx => hf x (by simp [hx])
    simp only [prodI]
    rw [List.pairwise_flatMap]
    refine ⟨fun m _ => ?_, ?_⟩
    · rw [List.pairwise_map]
      refine List.Pairwise.imp_of_mem (fun {a b} ha hb h => ?_) ih
      exact (TS.code_same (by rw [(prod_le ha).1.len, (prod_le hb).1.len])).mpr h
    · refine (rg_pw _ _).imp fun {m m'} hm => ?_
      intro a ha b hb
      obtain ⟨s, hs, rfl⟩ := List.mem_map.mp ha
      obtain ⟨t, ht, rfl⟩ := List.mem_map.mp hb
      exact TS.code_lt (by rw [(prod_le hs).1.len, (prod_le ht).1.len]) (prod_bd (fun x hx => hf x (by simp [hx])) hs) (prod_bd (fun x hx => hf x (by simp [hx])) ht) hm
section
variable {cs f : List Int} {a : Int}
theorem mem_pay (hc : Coins cs) (hf : Fill cs f) (ha : 0 ≤ a) {s : List Int} : s ∈ payI cs f a ↔ (LeL s f ∧ ∀ x ∈ s, 0 ≤ x) ∧ dotI cs s = a := by
  rw [pay_prod hf.len hc.pos hf.nn ha, List.mem_filter, decide_eq_true_eq]
  constructor
  · rintro ⟨h1, h2⟩
    exact ⟨prod_le h1, h2⟩
  · rintro ⟨h1, h2⟩
    exact ⟨mem_prod h1.1 h1.2, h2⟩
theorem pay_pw (hc : Coins cs) (hf : Fill cs f) (ha : 0 ≤ a) : (payI cs f a).Pairwise fun a b => TS.code 64 a < TS.code 64 b := by
  rw [pay_prod hf.len hc.pos hf.nn ha]
  exact (prod_pw fun x hx => (hf.rng x hx).2).filter _
theorem pay_ss (hc : Coins cs) (hf : Fill cs f) (ha : 0 ≤ a) (h2 : cs.length ≤ 2) (h0 : 0 < cs.length) : ssD (.lst ((payI cs f a).map tI)) = .val (.lst ((payI cs f a).map tI)) := by
  have hp := pay_pw hc hf ha
  have hfl := hf.len
  have hmem : ∀ t ∈ payI cs f a, t.length = cs.length ∧ TS.Bd 64 t := fun t ht => by
    obtain ⟨⟨h1, h3⟩, _⟩ := (mem_pay hc hf ha).mp ht
    exact ⟨by rw [h1.len, hfl], fun m hm => ⟨h3 m hm, by have := h1.top (fun y hy => (hf.rng y hy).2) m hm; omega⟩⟩
  have hu : ssT (payI cs f a) = payI cs f a := ss_uniq (d := cs.length) hmem (hp.imp fun h e => by subst e; omega) (hp.imp fun h => by omega) fun _ => Iff.rfl
  have ht : ∀ ss : List (List Int), tupsI (ss.map tI) = some ss := by
    intro ss
    induction ss with
    | nil => rfl
    | cons s ss ih =>
      have e : tupI (tI s) = some s := by
        show intsD (s.map .int) = some s
        have := ints_map (fun x : Int => x) s
        simpa using this
      simp only [List.map_cons, tupsI, e, ih]
      rfl
  have hlen : (payI cs f a).length ≤ 25 := by
    rw [pay_prod hf.len hc.pos hf.nn ha]
    have h1 := List.length_filter_le (fun s => decide (dotI cs s = a)) (prodI f)
    have h3 := prodI_len hf.rng
    have h4 : 5 ^ f.length ≤ 5 ^ 2 := Nat.pow_le_pow_right (by omega) (by omega)
    omega
  have hok : ssOk (payI cs f a) = true := by
    simp only [ssOk, Bool.and_eq_true, List.all_eq_true, Nat.ble_eq, beq_iff_eq, decide_eq_true_eq]
    refine ⟨by omega, fun t ht => ⟨⟨?_, by have := (hmem t ht).1; omega⟩, fun x hx => (hmem t ht).2 x hx⟩⟩
    cases hpp : payI cs f a with
    | nil => rw [hpp] at ht; cases ht
    | cons y ys =>
      show t.length = y.length
      rw [(hmem t ht).1, (hmem y (by rw [hpp]; simp)).1]
  show (match tupsI ((payI cs f a).map tI) with | some ts => if ssOk ts then Res.val (D.lst ((ssT ts).map fun t : List Int => D.tup (t.map .int))) else .bad | none => .bad) = _
  rw [ht]
  simp only [hok, if_true, hu]
  rfl
theorem rule_mem (hc : Coins cs) (hf : Fill cs f) (ha : 0 ≤ a) {ch : Ch} {s : List Int} (h : ruleI ch cs f a = some s) : s ∈ payI cs f a := by
  have co : ∀ fu, coinI fu cs f a = some s → s ∈ payI cs f a := by
    intro fu h
    refine (mem_pay hc hf ha).mpr ?_
    rw [coin_dot hc.pos ha] at h
    split at h
    · rename_i hd
      cases h
      obtain ⟨i1, i2⟩ := lp_le (fu := fu) (cs := cs) (n := a.toNat) (gs := f) (a := a) hf.nn
      exact ⟨sub_le i1 i2, hd⟩
    · cases h
  cases ch with
  | great => exact co _ h
  | full => exact co _ h
  | few => exact few_mem h
theorem rule_dot (hc : Coins cs) (hf : Fill cs f) (ha : 0 ≤ a) {ch : Ch} {s : List Int} (h : ruleI ch cs f a = some s) : dotI cs s = a := ((mem_pay hc hf ha).mp (rule_mem hc hf ha h)).2
theorem few_none (ss : List (List Int)) : fewI ss = none ↔ ss = [] := by
  cases ss with
  | nil => simp [fewI]
  | cons s ss => simp [fewI]
theorem one_none (hc : Coins cs) (hf : Fill cs f) (ha : 0 ≤ a) (h1 : cs.length = 1) (ch : Ch) : ruleI ch cs f a = none ↔ payI cs f a = [] := by
  constructor
  · intro h
    cases hp : payI cs f a with
    | nil => rfl
    | cons s ss =>
      obtain ⟨⟨l1, l2⟩, d⟩ := (mem_pay hc hf ha (s := s)).mp (by rw [hp]; simp)
      have co : ∀ fu, coinI fu cs f a ≠ none := by
        intro fu hn
        obtain ⟨i1, i2, i3⟩ := lp_inv (fu := fu) hc.pos (n := a.toNat) (gs := f) ha
        have ie := lp_end (fu := fu) hc.pos (n := a.toNat) (gs := f) (Nat.le_refl _) ha
        obtain ⟨j1, j2⟩ := lp_le (fu := fu) (cs := cs) (n := a.toNat) (gs := f) (a := a) hf.nn
        unfold coinI at hn
        generalize lp fu cs a.toNat f a = p at *
        obtain ⟨gs, b⟩ := p
        simp only at i1 i2 i3 ie j1 j2 hn
        have hb : b ≠ 0 := fun z => by rw [if_pos z] at hn; cases hn
        have hfl := hf.len
        match cs, h1, f, hfl, gs, i1, s, l1 with
        | [c], _, [x], _, [g], _, [y], l1 =>
          have hc0 := hc.pos c (by simp)
          simp only [dotI, Int.add_zero] at i3 d
          have hy := l2 y (by simp)
          have hyx := l1.1
          have hg := j2 g (by simp)
          have ebc : b = c * (y - x + g) := by rw [Int.mul_add, Int.mul_sub]; omega
          have hpos : 0 < y - x + g := by
            rcases Int.lt_or_le 0 (y - x + g) with h | h
            · exact h
            · have := Int.mul_nonpos_of_nonneg_of_nonpos (Int.le_of_lt hc0) h
              omega
          have hg0 : 0 < g := by omega
          have hcb : c ≤ b := by
            rw [ebc]
            have := Int.mul_le_mul_of_nonneg_left (show 1 ≤ y - x + g by omega) (Int.le_of_lt hc0)
            omega
          have : rwI fu [c] [g] 0 b = [(if fu then g else 0, c, 0)] := by
            simp [rwI, hcb, hg0]
          unfold stp at ie
          rw [this] at ie
          cases ie
      cases ch with
      | great => exact absurd h (co _)
      | full => exact absurd h (co _)
      | few => rw [← hp]; exact (few_none _).mp h
  · intro h
    cases hr : ruleI ch cs f a with
    | none => rfl
    | some s =>
      have := rule_mem hc hf ha hr
      rw [h] at this
      cases this
theorem few_least {ss : List (List Int)} {s : List Int} (h : fewI ss = some s) : ∀ t ∈ ss, s.sum ≤ t.sum := by
  cases ss with
  | nil => cases h
  | cons x ss =>
    cases h
    intro t ht
    have hm := (minL_ok (ss.map rowD) (rowD x)).2 (rowD t) (by
      rw [← List.map_cons (f := rowD)]
      exact List.mem_map.mpr ⟨t, ht, rfl⟩)
    rw [min_rows] at hm
    generalize (ss.foldl (fun a y => if ltD (rowD y) (rowD a) then y else a) x) = m at hm ⊢
    have e : ltD (rowD t) (rowD m) = if PySem.PyData.eqv (.int t.sum) (.int m.sum) = true then (if PySem.PyData.eqv (tI t).py (tI m).py = true then false else PySem.W.dataLt (tI t).py (tI m).py) else PySem.W.dataLt (.int t.sum) (.int m.sum) := by
      refine PySem.W.dataLt_pair (x := .int t.sum) (x' := .int m.sum) (y := (tI t).py) (y' := (tI m).py) (by simp [PySem.W.alike]) ?_
      rw [py_tI, py_tI]
      simp [PySem.W.alike, alike_ints]
    rw [e, PySem.W.dataLt_int] at hm
    by_cases h : t.sum = m.sum
    · omega
    · have h' : ¬ (PySem.PyData.eqv (.int t.sum) (.int m.sum) = true) := by simp [PySem.PyData.eqv, h]
      rw [if_neg h'] at hm
      have := of_decide_eq_false hm
      omega
end
end LW

/-! the law of paying, whole: the words for what can't be paid -/
namespace LW
open CS
def oS (x : Option D) : Option (D × Bool) := x.map fun d => (d, false)
@[simp] theorem oS_some (d : D) : oS (some d) = some (d, false) := (rfl)
@[simp] theorem oS_none : oS none = none := (rfl)
@[simp] theorem noOwn_oS (x : Option D) (e : Env) : noOwn (oS x :: e) = noOwn e := by cases x <;> rfl
@[simp] theorem visE_oS (x : Option D) (e : Env) : visE (oS x :: e) = x :: visE e := by cases x <;> rfl
@[simp] theorem hidE_oS (x : Option D) (e : Env) : hidE (oS x :: e) = x :: hidE e := by cases x <;> rfl
theorem sl4 (a b c d e f : D) : slD (.tup [a, b, c, d, e, f]) none (some 4) = .val (.tup [a, b, c, d]) := (rfl)
theorem sl5 (a b c d e f : D) : slD (.tup [a, b, c, d, e, f]) (some 5) none = .val (.tup [f]) := (rfl)
theorem sl2 (a b c : D) : slD (.tup [a, b, c]) none (some 2) = .val (.tup [a, b]) := (rfl)
section
variable {cs rs ws : List Int} {mo : Int} {ca : Ca} {ch : Ch} {un : Un} {lm : List Int}
theorem with_sem (hM : F_is_machine.sem [ma cs rs ws mo ca ch un lm] = .val (.bl true)) (ch' : Ch) (un' : Un) : F_with_program.sem [ma cs rs ws mo ca ch un lm, .tup [.str ca.s, .str ch'.s, .str un'.s]] = .val (ma cs rs ws mo ca ch' un' lm) := by
  have hpr : F_is_program.sem [.tup [.str ca.s, .str ch'.s, .str un'.s]] = .val (.bl true) := by
    cases ca <;> cases ch' <;> cases un' <;> kernel_rfl
  have h4 : slD (ma cs rs ws mo ca ch un lm) none (some 4) = .val (.tup [tI cs, tI rs, tI ws, .int mo]) := rfl
  have h5 : slD (ma cs rs ws mo ca ch un lm) (some 5) none = .val (.tup [tI lm]) := rfl
  rw [S_with_program]
  simp [B_with_program, check_ok hM, hpr, isAnil, optI, h4, h5, big, bin_addT]
  rfl
theorem worth_sem (hc : Coins cs) (hM : F_is_machine.sem [ma cs rs ws mo ca ch un lm] = .val (.bl true)) {s : List Int} (hl : s.length = cs.length) (hs : ∀ x ∈ s, 0 ≤ x ∧ x ≤ 60) : F_worth.sem [ma cs rs ws mo ca ch un lm, tI s] = .val (.int (dotI cs s)) := by
  have hl3 := hc.len
  have ha : F_are_ints.sem [tI s, .int (cs.length : Int), .int 0, .int 60] = .val (.bl true) := by
    rw [are_ints_sem _ _ _ _ (asked_tI s (by omega)), areInts_tI]
    have : (decide ((s.length : Int) = (cs.length : Int)) && s.all fun x => decide (0 ≤ x) && decide (x ≤ 60)) = true := by
      simp only [Bool.and_eq_true, decide_eq_true_eq, List.all_eq_true]
      exact ⟨by omega, hs⟩
    rw [this]
  have hw : F_find_worth.sem [ma cs rs ws mo ca ch un lm, tI s] = .val (.int (dotI cs s)) := find_worth_sem hc _ s
  rw [S_worth]
  simp [B_worth, check_ok hM, ma_0, len_tI, ha, hw]
/-- the checks of a machine and a filling hold -/
structure Good (cs rs ws : List Int) (mo : Int) (ca : Ca) (lm f : List Int) : Prop where
  m : Mac cs rs ws mo
  h2 : cs.length ≤ 2
  ok : ∀ (ch : Ch) (un : Un), F_is_machine.sem [ma cs rs ws mo ca ch un lm] = .val (.bl true)
  fl : Fill cs f
  le : LeL f rs
  w40 : dotI cs f ≤ 40
variable {f : List Int}
theorem Good.chk (g : Good cs rs ws mo ca lm f) (ch : Ch) (un : Un) : F_check_paying.sem [ma cs rs ws mo ca ch un lm, tI f] = .val .non := by
  refine check_paying_ok (g.ok ch un) ?_
  have hl3 := g.m.co.len
  have hfl := g.fl.len
  have := has_filling_sem (cs := cs) (rs := rs) (f := f) (by omega) [tI ws, .int mo, .tup [.str ca.s, .str ch.s, .str un.s], tI lm]
  have hA : areInts (tI f) cs.length 0 4 = true := by
    rw [areInts_tI]
    simp only [Bool.and_eq_true, decide_eq_true_eq, List.all_eq_true]
    exact ⟨by omega, g.fl.rng⟩
  rw [hA, g.le.le] at this
  exact this
theorem Good.amt {b : Int} (h0 : 0 ≤ b) (h1 : b ≤ 40) : F_check_amount.sem [.int b] = .val .non := check_amount_ok _ rfl (by simp [isInt, h0, h1])
theorem Good.payment (g : Good cs rs ws mo ca lm f) (ch : Ch) (un : Un) {b : Int} (h0 : 0 ≤ b) (h1 : b ≤ 40) : F_payment.sem [ma cs rs ws mo ca ch un lm, tI f, .int b] = .val (optD (ruleI ch cs f b)) := by
  rw [(pay_ok (g.chk ch un) (Good.amt h0 h1)).1]
  exact by_rule_sem g.m.co g.fl h0 (by omega) _ _ _ _ ch un _
theorem Good.paid (g : Good cs rs ws mo ca lm f) (ch : Ch) (un : Un) {b : Int} (h0 : 0 ≤ b) (h1 : b ≤ 40) : F_paid.sem [ma cs rs ws mo ca ch un lm, tI f, .int b] = .val (optD (paidI un ch cs f b)) := by
  rw [(pay_ok (g.chk ch un) (Good.amt h0 h1)).2]
  exact find_paid_sem g.m.co g.fl h0 (by omega) _ _ _ _ ch un _
/-- the amounts that can be paid -/
def fitI (ch : Ch) (cs f : List Int) : List Int := (rgI 0 41).filter fun b => (ruleI ch cs f b).isSome
theorem Good.payable (g : Good cs rs ws mo ca lm f) (ch : Ch) (un : Un) : F_payable.sem [ma cs rs ws mo ca ch un lm, tI f] = .val (.lst ((fitI ch cs f).map .int)) :=
  payable_sem g.m.co g.fl _ _ _ _ ch un _ (g.chk ch un)
theorem find_head (r : Int → Option (List Int)) : ∀ xs : List Int, xs.findSome? r = (xs.filter fun b => (r b).isSome).head?.bind r
  | [] => rfl
  | x :: xs => by
    cases h : r x with
    | none => simp [h, find_head r xs]
    | some s => simp [h]
theorem fil_none {α : Type} {p : α → Bool} : ∀ {xs : List α}, (∀ x ∈ xs, p x = false) → xs.filter p = []
  | [], _ => rfl
  | x :: xs, h => by
    rw [List.filter_cons, h x (by simp)]
    exact fil_none fun y hy => h y (by simp [hy])
theorem fil_all {α : Type} {p : α → Bool} : ∀ {xs : List α}, (∀ x ∈ xs, p x = true) → xs.filter p = xs
  | [], _ => rfl
  | x :: xs, h => by
    rw [List.filter_cons, h x (by simp), fil_all fun y hy => h y (by simp [hy])]
    rfl
theorem le_dot : ∀ {cs s f : List Int}, (∀ c ∈ cs, 0 < c) → LeL s f → dotI cs s ≤ dotI cs f
  | [], _, _, _, _ => by simp [dotI]
  | _ :: _, [], [], _, _ => by simp [dotI]
  | _ :: _, [], _ :: _, _, h => h.elim
  | _ :: _, _ :: _, [], _, h => h.elim
  | c :: cs, x :: s, y :: f, hc, h => by
    have ih := le_dot (cs := cs) (fun z hz => hc z (by simp [hz])) h.2
    have h1 := Int.mul_le_mul_of_nonneg_left h.1 (Int.le_of_lt (hc c (by simp)))
    simp only [dotI]
    omega
theorem rule_top (g : Good cs rs ws mo ca lm f) (ch : Ch) {b : Int} (h0 : 0 ≤ b) (h : dotI cs f < b) : ruleI ch cs f b = none := by
  cases hr : ruleI ch cs f b with
  | none => rfl
  | some s =>
    have hd := rule_dot g.m.co g.fl h0 hr
    have := le_dot g.m.co.pos (rule_le g.fl hr).1
    omega
theorem above_eq (g : Good cs rs ws mo ca lm f) (ch : Ch) {a : Int} (h0 : 0 ≤ a) (h1 : a ≤ 40) : ((fitI ch cs f).filter fun b => decide (a < b)) = (rgI (a + 1) (dotI cs f - a).toNat).filter fun b => (ruleI ch cs f b).isSome := by
  have hw := g.w40
  unfold fitI
  rw [List.filter_filter]
  obtain ⟨n, hn⟩ : ∃ n : Nat, 41 = (a + 1).toNat + ((dotI cs f - a).toNat + n) := ⟨41 - (a + 1).toNat - (dotI cs f - a).toNat, by omega⟩
  rw [hn, rgI_add, rgI_add, List.filter_append, List.filter_append]
  have e1 : (0 : Int) + ((a + 1).toNat : Int) = a + 1 := by omega
  rw [e1, fil_none (xs := rgI 0 (a + 1).toNat), fil_none (xs := rgI (a + 1 + ((dotI cs f - a).toNat : Int)) n)]
  · rw [List.nil_append, List.append_nil]
    apply List.filter_congr
    intro x hx
    have := mem_rgI.mp hx
    rw [decide_eq_true (show a < x by omega), Bool.true_and]
  · intro x hx
    have := mem_rgI.mp hx
    rw [rule_top g ch (by omega) (by omega)]
    simp
  · intro x hx
    have := mem_rgI.mp hx
    rw [decide_eq_false (show ¬ a < x by omega), Bool.false_and]
theorem below_eq (ch : Ch) {a : Int} (h0 : 0 ≤ a) (h1 : a ≤ 40) : ((fitI ch cs f).filter fun b => decide (b < a)) = (rgI 0 a.toNat).filter fun b => (ruleI ch cs f b).isSome := by
  unfold fitI
  rw [List.filter_filter]
  obtain ⟨n, hn⟩ : ∃ n : Nat, 41 = a.toNat + n := ⟨41 - a.toNat, by omega⟩
  rw [hn, rgI_add, List.filter_append]
  rw [fil_none (xs := rgI (0 + (a.toNat : Int)) n), List.append_nil]
  · apply List.filter_congr
    intro x hx
    have := mem_rgI.mp hx
    rw [decide_eq_true (show x < a by omega), Bool.true_and]
  · intro x hx
    have := mem_rgI.mp hx
    rw [decide_eq_false (show ¬ x < a by omega), Bool.false_and]
theorem less_last (ch : Ch) (a : Int) : lessI ch cs f a = ((rgI 0 a.toNat).filter fun b => (ruleI ch cs f b).isSome).getLast?.bind (ruleI ch cs f) := by
  unfold lessI
  rw [find_head, List.getLast?_eq_head?_reverse, List.filter_reverse]
end
end LW

/-! the law of paying, whole: what is paid fits the word -/
namespace LW
open CS
section
variable {cs rs ws : List Int} {mo : Int} {ca : Ca} {ch : Ch} {un : Un} {lm f : List Int}
theorem ne_ints (xs : List Int) : cmpD .NotEq (.lst (xs.map .int)) (.lst []) = .val (.bl (!xs.isEmpty)) := by
  have hs : shp (.lst (xs.map .int)) = true := by
    apply shp_of
    · show D.okks _ = true
      refine okks_of fun x hx => ?_
      obtain ⟨i, _, rfl⟩ := List.mem_map.mp hx
      rfl
    · show D.deps _ + 1 ≤ 64
      have := deps_of (n := 0) (xs := xs.map .int) fun x hx => by
        obtain ⟨i, _, rfl⟩ := List.mem_map.mp hx
        exact Nat.le_refl 0
      omega
  rw [cmp_ne _ _ hs (by decide +kernel)]
  cases xs <;> rfl
theorem okk_opt (o : Option (List Int)) : (optD o).okk = true := by
  cases o with
  | none => rfl
  | some s => exact okk_tI s
theorem dep_opt (o : Option (List Int)) : (optD o).dep ≤ 64 := by
  cases o with
  | none => decide
  | some s => exact Nat.le_trans (dep_tI s) (by decide)
theorem fit_len (ch : Ch) : (fitI ch cs f).length ≤ 41 := by
  have := List.length_filter_le (fun b => (ruleI ch cs f b).isSome) (rgI 0 41)
  simpa [fitI] using this
theorem turnU (g : Good cs rs ws mo ca lm f) (un u : Un) {a : Int} (h0 : 0 ≤ a) (h1 : a ≤ 40) (x5 x6 x7 x8 x9 x10 : Option D) :
    ∃ y5 y6 y7 y8 y9 y10 : Option D, exec T__law_unable L__law_unable_0 [some (ma cs rs ws mo ca ch un lm, false), some (tI f, false), some (.int a, false), some (optD (ruleI ch cs f a), false), some (.str u.s, false), oS x5, oS x6, oS x7, oS x8, oS x9, oS x10, none] = .nx [some (ma cs rs ws mo ca ch un lm, false), some (tI f, false), some (.int a, false), some (optD (ruleI ch cs f a), false), some (.str u.s, false), oS y5, oS y6, oS y7, oS y8, oS y9, oS y10, none] := by
  have hwp := with_sem (g.ok ch un) ch u
  have hpd := g.paid ch u h0 h1
  have hpy := g.payable ch u
  have hbg : big 1 = true := rfl
  have hnn : cmpD .IsNot .non .non = .val (.bl false) := rfl
  have htn : ∀ s, cmpD .IsNot (tI s) .non = .val (.bl true) := fun _ => rfl
  have hur := un_refuse u
  have huo := un_over u
  have e2 := fun o => ne_self (okk_opt o) (dep_opt o)
  cases hr : ruleI ch cs f a with
  | some s =>
    have hp : paidI u ch cs f a = some s := by simp only [paidI, hr]
    rw [hp] at hpd
    refine ⟨some (ma cs rs ws mo ca ch u lm), some (tI s), some (.lst ((fitI ch cs f).map .int)), x8, x9, x10, ?_⟩
    have e3 := e2 (some s)
    simp only [optD_some] at e3 hpd ⊢
    simp [L__law_unable_0, ma_4, isAnil, optI, sl2, hbg, bin_addT, hwp, hpd, hpy, parO, parE, htn, e3]
  | none =>
    by_cases hu : u = .refuse
    · subst hu
      have hp : paidI .refuse ch cs f a = none := by simp only [paidI, hr]
      rw [hp] at hpd
      refine ⟨some (ma cs rs ws mo ca ch .refuse lm), some .non, some (.lst ((fitI ch cs f).map .int)), x8, x9, x10, ?_⟩
      have e3 := e2 none
      simp only [optD_none] at e3 hpd ⊢
      simp [L__law_unable_0, ma_4, isAnil, optI, sl2, hbg, bin_addT, hwp, hpd, hpy, parO, parE, hnn, hur, e3]
    · have hur' : cmpD .Eq (.str u.s) (.str "refuse") = .val (.bl false) := by
        rw [hur]; cases u <;> first | rfl | exact absurd rfl hu
      have ha0 : 0 < a := by
        obtain ⟨s, hs⟩ := rule_zero g.m.co g.fl ch
        by_cases h : a = 0
        · rw [h, hs] at hr; cases hr
        · omega
      have hA := above_eq g ch h0 h1
      have hB := below_eq (cs := cs) (f := f) ch h0 h1
      -- the amount that is due
      have key : ∃ (b : Int) (s : List Int), 0 ≤ b ∧ b ≤ 40 ∧ ruleI ch cs f b = some s ∧ paidI u ch cs f a = some s ∧
          ((u = .over ∧ ∃ r, ((fitI ch cs f).filter fun b => decide (a < b)) = b :: r) ∨ ((u ≠ .over ∨ ((fitI ch cs f).filter fun b => decide (a < b)) = []) ∧ ((fitI ch cs f).filter fun b => decide (b < a)).getLast? = some b)) := by
        obtain ⟨s, hs⟩ := less_some g.m.co g.fl ch ha0
        have hlast : ∃ b, ((rgI 0 a.toNat).filter fun b => (ruleI ch cs f b).isSome).getLast? = some b ∧ ruleI ch cs f b = some s ∧ 0 ≤ b ∧ b ≤ 40 := by
          have := less_last (cs := cs) (f := f) ch a
          rw [hs] at this
          cases hl : ((rgI 0 a.toNat).filter fun b => (ruleI ch cs f b).isSome).getLast? with
          | none => rw [hl] at this; cases this
          | some b =>
            rw [hl] at this
            have hm := List.mem_of_getLast? hl
            have hm' := mem_rgI.mp (List.mem_filter.mp hm).1
            exact ⟨b, rfl, this.symm, by omega, by omega⟩
        obtain ⟨b, hb1, hb2, hb3, hb4⟩ := hlast
        cases u with
        | refuse => exact absurd rfl hu
        | short => exact ⟨b, s, hb3, hb4, hb2, by simp only [paidI, hr]; exact hs, .inr ⟨.inl (by simp), by rw [hB]; exact hb1⟩⟩
        | keep => exact ⟨b, s, hb3, hb4, hb2, by simp only [paidI, hr]; exact hs, .inr ⟨.inl (by simp), by rw [hB]; exact hb1⟩⟩
        | over =>
          have hpo : paidI .over ch cs f a = (rgI (a + 1) (dotI cs f - a).toNat ++ (rgI 0 a.toNat).reverse).findSome? (ruleI ch cs f) := by simp only [paidI, hr]
          rw [List.findSome?_append, find_head (ruleI ch cs f) (rgI (a + 1) (dotI cs f - a).toNat)] at hpo
          cases hAA : (rgI (a + 1) (dotI cs f - a).toNat).filter fun b => (ruleI ch cs f b).isSome with
          | nil =>
            rw [hAA] at hpo
            have hpo' : paidI .over ch cs f a = lessI ch cs f a := by rw [hpo]; rfl
            exact ⟨b, s, hb3, hb4, hb2, by rw [hpo']; exact hs, .inr ⟨.inr (by rw [hA, hAA]), by rw [hB]; exact hb1⟩⟩
          | cons c r =>
            rw [hAA] at hpo
            have hc : c ∈ (rgI (a + 1) (dotI cs f - a).toNat).filter fun b => (ruleI ch cs f b).isSome := by rw [hAA]; simp
            have hc1 := mem_rgI.mp (List.mem_filter.mp hc).1
            have hc2 := (List.mem_filter.mp hc).2
            obtain ⟨t, ht⟩ := Option.isSome_iff_exists.mp hc2
            have hw := g.w40
            refine ⟨c, t, by omega, by omega, ht, ?_, .inl ⟨rfl, r, by rw [hA, hAA]⟩⟩
            rw [hpo]
            simp [ht]
      obtain ⟨b, s, b0, b1, hb, hp, hcase⟩ := key
      rw [hp] at hpd
      obtain ⟨r1, r2⟩ := rule_le g.fl hb
      have hdot := rule_dot g.m.co g.fl b0 hb
      have hfl := g.fl.len
      have hwo := worth_sem g.m.co (g.ok ch u) (s := s) (by rw [r1.len, ← hfl]) (fun x hx => ⟨r2 x hx, by
        have := r1.top (fun y hy => (g.fl.rng y hy).2) x hx
        omega⟩)
      rw [hdot] at hwo
      have hpb := g.payment ch u b0 b1
      rw [hb] at hpb
      have hfl41 := fit_len (cs := cs) (f := f) ch
      have hbf : big (fitI ch cs f).length = true := big_of (by omega)
      have e3 := e2 (some s)
      simp only [optD_some, optD_none] at e3 hpd hpb ⊢
      have la : ∀ z6 z7 z8 z9 z10, ev T__law_unable (.lc (.var 11) (.nm 11) (.var 7) (.cmp .Gt (.var 11) (.var 2)) [("n", 11)]) [some (ma cs rs ws mo ca ch un lm), some (tI f), some (.int a), some .non, some (.str u.s), z6, z7, some (.lst ((fitI ch cs f).map .int)), z8, z9, z10, none] = .val (.lst (((fitI ch cs f).filter fun b => decide (a < b)).map .int)) := by
        intro z6 z7 z8 z9 z10
        simp [hbf]
        rw [lcGo_filA (p := fun b => decide (a < b)) (g := .int)]
        · simp
        · intro x _
          rw [lcF_if _ _ _ _ _ [some (ma cs rs ws mo ca ch un lm), some (tI f), some (.int a), some .non, some (.str u.s), z6, z7, some (.lst ((fitI ch cs f).map .int)), z8, z9, z10, some (.int x)] _ (by rfl) (by rfl)]
          by_cases h : a < x <;> simp [h]
      have lb : ∀ z6 z7 z8 z9 z10, ev T__law_unable (.lc (.var 11) (.nm 11) (.var 7) (.cmp .Lt (.var 11) (.var 2)) [("n", 11)]) [some (ma cs rs ws mo ca ch un lm), some (tI f), some (.int a), some .non, some (.str u.s), z6, z7, some (.lst ((fitI ch cs f).map .int)), z8, z9, z10, none] = .val (.lst (((fitI ch cs f).filter fun b => decide (b < a)).map .int)) := by
        intro z6 z7 z8 z9 z10
        simp [hbf]
        rw [lcGo_filA (p := fun b => decide (b < a)) (g := .int)]
        · simp
        · intro x _
          rw [lcF_if _ _ _ _ _ [some (ma cs rs ws mo ca ch un lm), some (tI f), some (.int a), some .non, some (.str u.s), z6, z7, some (.lst ((fitI ch cs f).map .int)), z8, z9, z10, some (.int x)] _ (by rfl) (by rfl)]
          by_cases h : x < a <;> simp [h]
      generalize hAb : ((fitI ch cs f).filter fun b => decide (a < b)) = A at *
      generalize hBe : ((fitI ch cs f).filter fun b => decide (b < a)) = B at *
      have hne := ne_ints A
      have hlast : ∀ c, B.getLast? = some c → ixD (.lst (B.map .int)) (.int (-1)) = .val (.int c) := fun c h => by
        show atD _ _ = _
        exact at_lastQ (by rw [List.getLast?_map, h]; rfl)
      refine ⟨some (ma cs rs ws mo ca ch u lm), some (tI s), some (.lst ((fitI ch cs f).map .int)), some (.int b), some (.lst (A.map .int)), some (.lst (B.map .int)), ?_⟩
      have hdue : ∀ z6 z7 z8, ev T__law_unable (.ife (.and (.cmp .Eq (.var 4) (.str "over")) (.cmp .NotEq (.var 9) (.lst .anil))) (.ix (.var 9) (.int 0)) (.ix (.var 10) (.neg (.int 1)))) [some (ma cs rs ws mo ca ch un lm), some (tI f), some (.int a), some .non, some (.str u.s), z6, z7, some (.lst ((fitI ch cs f).map .int)), z8, some (.lst (A.map .int)), some (.lst (B.map .int)), none] = .val (.int b) := by
        intro z6 z7 z8
        rcases hcase with ⟨rfl, r, rfl⟩ | ⟨hn, hl⟩
        · have h0 : ixD (.lst (D.int b :: r.map .int)) (.int 0) = .val (.int b) := at_0 _ _
          simp at hne
          simp [huo, big, hne, h0]
        · have hl' := hlast b hl
          by_cases huu : u = .over
          · subst huu
            rcases hn with hn | hn
            · exact absurd rfl hn
            · subst hn
              simp at hne
              simp [huo, big, hne, negD, hl']
          · have huo' : cmpD .Eq (.str u.s) (.str "over") = .val (.bl false) := by
              rw [huo]; cases u <;> first | rfl | exact absurd rfl huu
            simp [huo', big, negD, hl']
      simp only [L__law_unable_0, exq_seq]
      simp [-evq_lc, -evq_ife, ma_4, isAnil, optI, sl2, hbg, bin_addT, hwp, hpd, hpy, parO, parE, hnn, hur', la, lb, hdue, hwo, hpb, e3]
end
end LW

/-! the law of paying, whole: one amount -/
namespace LW
open CS
theorem forGo_four {b : D → Env → Out} {P : Env → Prop} : ∀ (xs : List D) (e : Env), (∀ d ∈ xs, ∀ e, P e → ∃ e', b d e = .nx e' ∧ P e') → P e → ∃ e', forGo b xs e = .nx e' ∧ P e'
  | [], e, _, h => ⟨e, rfl, h⟩
  | x :: xs, e, hb, h => by
    obtain ⟨e', h1, h2⟩ := hb x (by simp) e h
    obtain ⟨e'', h3, h4⟩ := forGo_four xs e' (fun d hd => hb d (by simp [hd])) h2
    exact ⟨e'', by rw [forGo_cons, h1, then_nx, h3], h4⟩
section
variable {cs rs ws : List Int} {mo : Int} {ca : Ca} {ch : Ch} {un : Un} {lm f : List Int}
theorem unable_sem (g : Good cs rs ws mo ca lm f) (ch : Ch) (un : Un) {a : Int} (h0 : 0 ≤ a) (h1 : a ≤ 40) : F__law_unable.sem [ma cs rs ws mo ca ch un lm, tI f, .int a, optD (ruleI ch cs f a)] = .val (.bl true) := by
  rw [S__law_unable]
  obtain ⟨e', e1, y4, y5, y6, y7, y8, y9, y10, rfl⟩ := forGo_four (b := forF T__law_unable (.nm 4) L__law_unable_0) (P := fun e => ∃ x4 x5 x6 x7 x8 x9 x10 : Option D, e = [some (ma cs rs ws mo ca ch un lm, false), some (tI f, false), some (.int a, false), some (optD (ruleI ch cs f a), false), oS x4, oS x5, oS x6, oS x7, oS x8, oS x9, oS x10, none]) [.str Un.refuse.s, .str Un.short.s, .str Un.keep.s, .str Un.over.s] [some (ma cs rs ws mo ca ch un lm, false), some (tI f, false), some (.int a, false), some (optD (ruleI ch cs f a), false), none, none, none, none, none, none, none, none] (fun d hd e he => by
    obtain ⟨x4, x5, x6, x7, x8, x9, x10, rfl⟩ := he
    have : ∃ u : Un, d = .str u.s := by
      simp only [List.mem_cons, List.not_mem_nil, or_false] at hd
      rcases hd with rfl | rfl | rfl | rfl <;> exact ⟨_, rfl⟩
    obtain ⟨u, rfl⟩ := this
    obtain ⟨y5, y6, y7, y8, y9, y10, e⟩ := turnU g (ch := ch) un u h0 h1 x5 x6 x7 x8 x9 x10
    exact ⟨_, e, some (.str u.s), y5, y6, y7, y8, y9, y10, rfl⟩) ⟨none, none, none, none, none, none, none, rfl⟩
  simp only [Un.s] at e1
  simp [B__law_unable, big, e1]
theorem in_ints (a : Int) (xs : List Int) : cmpD .In (.int a) (.lst (xs.map .int)) = .val (.bl (decide (a ∈ xs))) := by
  have hs : shp (.lst (xs.map .int)) = true := by
    apply shp_of
    · show D.okks _ = true
      refine okks_of fun x hx => ?_
      obtain ⟨i, _, rfl⟩ := List.mem_map.mp hx
      rfl
    · show D.deps _ + 1 ≤ 64
      have := deps_of (n := 0) (xs := xs.map .int) fun x hx => by
        obtain ⟨i, _, rfl⟩ := List.mem_map.mp hx
        exact Nat.le_refl 0
      omega
  show (if shp (.int a) && shp (.lst (xs.map .int)) then Res.val (D.bl (inD (.int a) (xs.map .int))) else .bad) = _
  rw [hs]
  have : inD (.int a) (xs.map .int) = decide (a ∈ xs) := by
    unfold inD
    rw [List.any_map]
    induction xs with
    | nil => rfl
    | cons x xs ih =>
      have ih' := ih (by
        apply shp_of
        · show D.okks _ = true
          refine okks_of fun x hx => ?_
          obtain ⟨i, _, rfl⟩ := List.mem_map.mp hx
          rfl
        · show D.deps _ + 1 ≤ 64
          have := deps_of (n := 0) (xs := xs.map .int) fun x hx => by
            obtain ⟨i, _, rfl⟩ := List.mem_map.mp hx
            exact Nat.le_refl 0
          omega)
      rw [List.any_cons, ih']
      show (eqD (.int x) (.int a) || decide (a ∈ xs)) = _
      rw [eq_int]
      by_cases h : x = a
      · subst h; simp
      · have h' : ¬ a = x := fun e => h e.symm
        simp [h, h']
  rw [this]
  rfl
theorem notin_ts {s : List Int} {ss : List (List Int)} (h : s ∈ ss) : cmpD .NotIn (tI s) (.lst (ss.map tI)) = .val (.bl false) := by
  have s1 := shp_of (okk_tI s) (Nat.le_trans (dep_tI s) (by decide))
  have s2 := shp_of (okk_ts ss) (dep_ts ss)
  show (if shp (tI s) && shp (.lst (ss.map tI)) then Res.val (D.bl (!inD (tI s) (ss.map tI))) else .bad) = _
  rw [s1, s2]
  have : inD (tI s) (ss.map tI) = true := by
    unfold inD
    rw [List.any_eq_true]
    exact ⟨tI s, List.mem_map.mpr ⟨s, h, rfl⟩, eqD_refl _ (okk_tI s)⟩
  rw [this]
  rfl
theorem eq_ts (ss : List (List Int)) : cmpD .Eq (.lst (ss.map tI)) (.lst []) = .val (.bl ss.isEmpty) := by
  rw [cmp_eq _ _ (shp_of (okk_ts ss) (dep_ts ss)) (by decide +kernel)]
  cases ss <;> rfl
theorem min_ints {xs : List Int} {m : Int} (hm : m ∈ xs) (hl : ∀ y ∈ xs, m ≤ y) : b1D .min (.lst (xs.map .int)) = .val (.int m) := by
  cases xs with
  | nil => cases hm
  | cons x xs =>
    have hc : cmpB ((x :: xs).map D.int) = true := by
      unfold cmpB
      simp only [List.all_eq_true, Bool.and_eq_true]
      intro y hy
      obtain ⟨i, _, rfl⟩ := List.mem_map.mp hy
      refine ⟨rfl, fun z hz => ?_⟩
      obtain ⟨j, _, rfl⟩ := List.mem_map.mp hz
      simp [D.py, PySem.W.alike]
    have hs : shp (.lst ((x :: xs).map D.int)) = true := by
      apply shp_of
      · show D.okks _ = true
        refine okks_of fun x hx => ?_
        obtain ⟨i, _, rfl⟩ := List.mem_map.mp hx
        rfl
      · show D.deps _ + 1 ≤ 64
        have := deps_of (n := 0) (xs := (x :: xs).map D.int) fun x hx => by
          obtain ⟨i, _, rfl⟩ := List.mem_map.mp hx
          exact Nat.le_refl 0
        omega
    show (if cmpB ((x :: xs).map D.int) && shp (.lst ((x :: xs).map D.int)) then Res.val (minL (.int x) (xs.map .int)) else .bad) = _
    rw [hc, hs]
    obtain ⟨m1, m2⟩ := minL_ok (xs.map D.int) (.int x)
    rw [← List.map_cons (f := D.int)] at m1 m2
    obtain ⟨k, hk, e⟩ := List.mem_map.mp m1
    have h3 := m2 (.int m) (List.mem_map.mpr ⟨m, hm, rfl⟩)
    rw [← e] at h3 ⊢
    have h4 : decide (m < k) = false := by
      have : ltD (.int m) (.int k) = decide (m < k) := PySem.W.dataLt_int m k
      rw [← this]; exact h3
    have h5 := of_decide_eq_false h4
    have h6 := hl k hk
    have : k = m := by omega
    rw [this]
    rfl
theorem turnC {ns : List Int} (g : Good cs rs ws mo ca lm f) (ch : Ch) (un : Un) (c : Ch) {a : Int} (h0 : 0 ≤ a) (h1 : a ≤ 40) (x7 x8 : Option D) :
    ∃ y7 y8 : Option D, exec T_law L_law_0 [some (.scr ns, false), some (ma cs rs ws mo ca ch un lm, false), some (tI f, false), some (.int a, false), some (.str c.s, false), some (.lst ((payI cs f a).map tI), false), some (.tup [.str ca.s, .str ch.s, .str un.s], false), oS x7, oS x8, none, none, none] = .nx [some (.scr ns, false), some (ma cs rs ws mo ca ch un lm, false), some (tI f, false), some (.int a, false), some (.str c.s, false), some (.lst ((payI cs f a).map tI), false), some (.tup [.str ca.s, .str ch.s, .str un.s], false), oS y7, oS y8, none, none, none] := by
  have hwp := with_sem (g.ok ch un) c un
  have hpm := g.payment c un h0 h1
  have hpy := g.payable c un
  have hun := unable_sem g c un h0 h1
  have hfl := g.fl.len
  have hl3 := g.m.co.len
  have hb := bigs_pay g.fl.len g.m.co.pos g.fl.rng (by omega) a h0
  have hbg : big (payI cs f a).length = true := big_of (by omega)
  have b3 : big 3 = true := rfl
  have b0 : big 0 = true := rfl
  have hin : cmpD .In (.int a) (.lst ((fitI c cs f).map .int)) = .val (.bl (ruleI c cs f a).isSome) := by
    rw [in_ints]
    congr 2
    have : a ∈ fitI c cs f ↔ (ruleI c cs f a).isSome = true := by
      unfold fitI
      rw [List.mem_filter]
      exact ⟨fun h => h.2, fun h => ⟨mem_rgI.mpr (by omega), h⟩⟩
    cases hs : (ruleI c cs f a).isSome with
    | true => exact decide_eq_true (this.mpr hs)
    | false => exact decide_eq_false fun h => by rw [this.mp h] at hs; cases hs
  have hneb : ∀ b : Bool, cmpD .NotEq (.bl b) (.bl b) = .val (.bl false) := fun b => ne_self rfl (by simp [D.dep])
  have hfw := ch_few c
  have hlen : b1D .len (tI f) = .val (.int (f.length : Int)) := len_tI f
  have hnone : (c = .few ∨ (f.length : Int) = 1) → ((ruleI c cs f a).isNone = (payI cs f a).isEmpty) := by
    intro h
    have : ruleI c cs f a = none ↔ payI cs f a = [] := by
      rcases h with rfl | h
      · exact few_none _
      · exact one_none g.m.co g.fl h0 (by omega) c
    cases hp : payI cs f a with
    | nil => rw [this.mpr hp]; rfl
    | cons s ss =>
      cases hr : ruleI c cs f a with
      | none => rw [this.mp hr] at hp; cases hp
      | some t => rfl
  refine ⟨some (ma cs rs ws mo ca c un lm), some (optD (ruleI c cs f a)), ?_⟩
  cases hr : ruleI c cs f a with
  | none =>
    have e1 : cmpD .IsNot .non .non = .val (.bl false) := rfl
    have e2 : cmpD .Is .non .non = .val (.bl true) := rfl
    rw [hr] at hpm hin hun hnone
    simp only [optD_none] at hpm hun
    have e4 := eq_ts (payI cs f a)
    have hfin : (c = .few ∨ (f.length : Int) = 1) → (payI cs f a).isEmpty = true := fun h => by
      have := hnone h
      rw [← this]; rfl
    simp only [L_law_0, exq_seq, optD_none]
    by_cases hcf : c = .few
    · subst hcf
      have h5 := hfin (.inl rfl)
      rw [h5] at e4
      simp [ix_p0, ix_p2, b3, hwp, hpm, e1, hpy, hin, hneb, hfw, e2, b0, e4, hun]
    · have hfw' : cmpD .Eq (.str c.s) (.str "few") = .val (.bl false) := by
        rw [hfw]; cases c <;> first | rfl | exact absurd rfl hcf
      by_cases hl1 : (f.length : Int) = 1
      · have h5 := hfin (.inr hl1)
        rw [h5] at e4
        simp [ix_p0, ix_p2, b3, hwp, hpm, e1, hpy, hin, hneb, hfw', e2, b0, e4, hun, hlen, hl1]
      · simp [ix_p0, ix_p2, b3, hwp, hpm, e1, hpy, hin, hneb, hfw', e2, b0, e4, hun, hlen, hl1]
  | some s =>
    have e1 : cmpD .IsNot (tI s) .non = .val (.bl true) := rfl
    have e2 : cmpD .Is (tI s) .non = .val (.bl false) := rfl
    have hmem := rule_mem g.m.co g.fl h0 hr
    have hni := notin_ts hmem
    rw [hr] at hpm hin hun hnone
    simp only [optD_some] at hpm hun
    have e4 := eq_ts (payI cs f a)
    have hemp : (payI cs f a).isEmpty = false := by
      cases hp : payI cs f a with
      | nil => rw [hp] at hmem; cases hmem
      | cons _ _ => rfl
    rw [hemp] at e4
    simp only [L_law_0, exq_seq, optD_some]
    by_cases hcf : c = .few
    · subst hcf
      have hmin := min_ints (xs := (payI cs f a).map List.sum) (m := s.sum) (List.mem_map.mpr ⟨s, hmem, rfl⟩) (fun y hy => by
        obtain ⟨t, ht, rfl⟩ := List.mem_map.mp hy
        exact few_least hr t ht)
      have hmin' : b1D .min (.lst ((payI cs f a).map fun s => D.int s.sum)) = .val (.int s.sum) := by
        rw [List.map_map] at hmin
        exact hmin
      simp [ix_p0, ix_p2, b3, hwp, hpm, e1, hpy, hin, hneb, hni, hfw, e2, b0, e4, hun, hbg, sum_tI]
      rw [lcGo_mapA (g := fun s => D.int s.sum) (by intro s _; simp [wipe, sum_tI])]
      simp [hmin', hfw, e2, b0, e4, hneb, hun]
    · have hfw' : cmpD .Eq (.str c.s) (.str "few") = .val (.bl false) := by
        rw [hfw]; cases c <;> first | rfl | exact absurd rfl hcf
      by_cases hl1 : (f.length : Int) = 1
      · simp [ix_p0, ix_p2, b3, hwp, hpm, e1, hpy, hin, hneb, hni, hfw', e2, b0, e4, hun, hlen, hl1]
      · simp [ix_p0, ix_p2, b3, hwp, hpm, e1, hpy, hin, hneb, hni, hfw', e2, b0, e4, hun, hlen, hl1]
end
end LW

/-! the law of paying, whole -/
namespace LW
open CS
theorem lc_none {f : D → Res (Option D)} : ∀ {xs : List D}, (∀ x ∈ xs, f x = .val none) → lcGo f xs = .val []
  | [], _ => rfl
  | x :: xs, h => by
    rw [lcGo_step _ _ _ _ (h x (by simp)), lc_none (xs := xs) fun y hy => h y (by simp [hy])]
    rfl
theorem mem_enm : ∀ {xs : List Int} {k : Int} {d : D}, d ∈ enmL k (xs.map .int) → ∃ (j : Nat) (x : Int), d = .tup [.int (k + j), .int x] ∧ xs[j]? = some x
  | [], _, _, h => by simp [enmL] at h
  | y :: xs, k, d, h => by
    simp only [List.map_cons, enmL, List.mem_cons] at h
    rcases h with rfl | h
    · exact ⟨0, y, by simp, by simp⟩
    · obtain ⟨j, x, e1, e2⟩ := mem_enm h
      exact ⟨j + 1, x, by rw [e1]; congr 3; simp; omega, by simpa using e2⟩
theorem LeL.get : ∀ {a b : List Int} {j : Nat} {x : Int}, LeL a b → a[j]? = some x → ∃ y, b[j]? = some y ∧ x ≤ y
  | [], _, _, _, _, h => by simp at h
  | _ :: _, [], _, _, h, _ => h.elim
  | x :: a, y :: b, 0, z, h, e => by
    simp at e
    subst e
    exact ⟨y, by simp, h.1⟩
  | x :: a, y :: b, j + 1, z, h, e => by
    obtain ⟨w, h1, h2⟩ := LeL.get h.2 (by simpa using e)
    exact ⟨w, by simpa using h1, h2⟩
section
variable {cs rs ws : List Int} {mo : Int} {ca : Ca} {ch : Ch} {un : Un} {lm f : List Int}
theorem turnA {ns : List Int} (g : Good cs rs ws mo ca lm f) (h0c : 0 < cs.length) (ch : Ch) (un : Un) {a : Int} (h0 : 0 ≤ a) (h1 : a ≤ 40) (x4 x5 x6 x7 x8 : Option D) :
    ∃ y4 y5 y6 y7 y8 : Option D, exec T_law L_law_1 [some (.scr ns, false), some (ma cs rs ws mo ca ch un lm, false), some (tI f, false), some (.int a, false), oS x4, oS x5, oS x6, oS x7, oS x8, none, none, none] = .nx [some (.scr ns, false), some (ma cs rs ws mo ca ch un lm, false), some (tI f, false), some (.int a, false), oS y4, oS y5, oS y6, oS y7, oS y8, none, none, none] := by
  have hfl := g.fl.len
  have hl3 := g.m.co.len
  have hM := g.ok ch un
  have hps := payments_sem g.m.co g.fl h0 (by omega) [tI rs, tI ws, .int mo, .tup [.str ca.s, .str ch.s, .str un.s], tI lm] (g.chk ch un) (Good.amt h0 h1)
  have hps' : F_payments.sem [ma cs rs ws mo ca ch un lm, tI f, .int a] = .val (.lst ((payI cs f a).map tI)) := hps
  have hss := pay_ss g.m.co g.fl h0 g.h2 h0c
  have hne := ne_self (okk_ts (payI cs f a)) (dep_ts (payI cs f a))
  have hb := bigs_pay g.fl.len g.m.co.pos g.fl.rng (by omega) a h0
  have hbg : big (payI cs f a).length = true := big_of (by omega)
  have hne0 : cmpD .NotEq (.lst []) (.lst []) = .val (.bl false) := by kernel_rfl
  have b0 : big 0 = true := rfl
  have b3 : big 3 = true := rfl
  have mem : ∀ s ∈ payI cs f a, (s.length = cs.length ∧ LeL s f ∧ ∀ x ∈ s, 0 ≤ x ∧ x ≤ 4) ∧ dotI cs s = a := fun s hs => by
    obtain ⟨⟨h2, h3⟩, h4⟩ := (mem_pay g.m.co g.fl h0).mp hs
    exact ⟨⟨by rw [h2.len, hfl], h2, fun x hx => ⟨h3 x hx, h2.top (fun y hy => (g.fl.rng y hy).2) x hx⟩⟩, h4⟩
  let M := ma cs rs ws mo ca ch un lm
  let P : D := .tup [.str ca.s, .str ch.s, .str un.s]
  have l1 : ∀ z4 z7 z8, ev T_law (.lc (.var 8) (.nm 8) (.var 5) (.cmp .NotEq (.call 4 (.acons (.var 1) (.acons (.var 8) .anil))) (.var 3)) [("some", 8)]) [some (.scr ns), some M, some (tI f), some (.int a), z4, some (.lst ((payI cs f a).map tI)), some P, z7, z8, none, none, none] = .val (.lst []) := by
    intro z4 z7 z8
    simp [hbg]
    rw [lc_none]
    · simp
    · intro d hd
      obtain ⟨s, hs, rfl⟩ := List.mem_map.mp hd
      obtain ⟨⟨m1, m2, m3⟩, m4⟩ := mem s hs
      have hw := worth_sem g.m.co hM m1 (fun x hx => ⟨(m3 x hx).1, by have := (m3 x hx).2; omega⟩)
      rw [m4] at hw
      rw [lcF_if _ _ _ _ _ [some (.scr ns), some M, some (tI f), some (.int a), z4, some (.lst ((payI cs f a).map tI)), some P, z7, some (tI s), none, none, none] _ (by rfl) (by rfl)]
      simp [M, hw]
  have l2 : ∀ z4 z7 z8, ev T_law (.lc (.var 8) (.nm 8) (.var 5) (.cmp .NotEq (.lc (.var 10) (.tup (.cons (.nm 10) (.cons (.nm 11) .nil))) (.enm (.var 8)) (.cmp .Gt (.var 11) (.ix (.var 2) (.var 10))) [("n", 10), ("many", 11)]) (.lst .anil)) [("some", 8)]) [some (.scr ns), some M, some (tI f), some (.int a), z4, some (.lst ((payI cs f a).map tI)), some P, z7, z8, none, none, none] = .val (.lst []) := by
    intro z4 z7 z8
    simp [hbg]
    rw [lc_none]
    · simp
    · intro d hd
      obtain ⟨s, hs, rfl⟩ := List.mem_map.mp hd
      obtain ⟨⟨m1, m2, m3⟩, m4⟩ := mem s hs
      rw [lcF_if _ _ _ _ _ [some (.scr ns), some M, some (tI f), some (.int a), z4, some (.lst ((payI cs f a).map tI)), some P, z7, some (tI s), none, none, none] _ (by rfl) (by rfl)]
      have hit : itemsD (tI s) = .val (s.map .int) := rfl
      have hlen : (enmL 0 (s.map .int)).length = s.length := by rw [enm_ints]; simp
      have hb2 : big s.length = true := big_of (by omega)
      simp [hit, hlen, hb2]
      rw [lc_none]
      · simp [b0, hne0]
      · intro d hd
        obtain ⟨j, x, rfl, hj⟩ := mem_enm hd
        obtain ⟨y, hy, hxy⟩ := m2.get hj
        rw [lcF_if _ _ _ _ _ [some (.scr ns), some M, some (tI f), some (.int a), z4, some (.lst ((payI cs f a).map tI)), some P, z7, some (tI s), none, some (.int (0 + (j : Int))), some (.int x)] _ (by rfl) (by rfl)]
        have hix : ixD (tI f) (.int (0 + (j : Int))) = .val (.int y) := by
          rw [Int.zero_add]
          exact atD_ints hy
        have hle : ¬ y < x := by omega
        simp only [evq_cmp, evq_var, evq_ix, List.getElem?_cons_zero, List.getElem?_cons_succ, varR_some, bind_val, hix, cmp_gt, decide_eq_false hle, boolD_bl]
        rfl
  obtain ⟨e', e1, y4, y7, y8, rfl⟩ := forGo_four (b := forF T_law (.nm 4) L_law_0) (P := fun e => ∃ x4 x7 x8 : Option D, e = [some (.scr ns, false), some (ma cs rs ws mo ca ch un lm, false), some (tI f, false), some (.int a, false), oS x4, some (.lst ((payI cs f a).map tI), false), some (.tup [.str ca.s, .str ch.s, .str un.s], false), oS x7, oS x8, none, none, none]) [.str "great", .str "few", .str "full"] [some (.scr ns, false), some (ma cs rs ws mo ca ch un lm, false), some (tI f, false), some (.int a, false), oS x4, some (.lst ((payI cs f a).map tI), false), some (.tup [.str ca.s, .str ch.s, .str un.s], false), oS x7, oS x8, none, none, none] (fun d hd e he => by
    obtain ⟨x4, x7, x8, rfl⟩ := he
    have : ∃ c : Ch, d = .str c.s := by
      simp only [List.mem_cons, List.not_mem_nil, or_false] at hd
      rcases hd with rfl | rfl | rfl
      · exact ⟨.great, rfl⟩
      · exact ⟨.few, rfl⟩
      · exact ⟨.full, rfl⟩
    obtain ⟨c, rfl⟩ := this
    obtain ⟨y7, y8, e⟩ := turnC (ns := ns) g ch un c h0 h1 x7 x8
    exact ⟨_, e, some (.str c.s), y7, y8, rfl⟩) ⟨x4, x7, x8, rfl⟩
  refine ⟨y4, some (.lst ((payI cs f a).map tI)), some (.tup [.str ca.s, .str ch.s, .str un.s]), y7, y8, ?_⟩
  simp only [M, P] at l1 l2
  simp only [L_law_1, exq_seq]
  simp [-evq_lc, hps', ma_4, parO, parE, hss, hne, l1, l2, b0, hne0, b3, e1]
end
theorem law_sem (ns : List Int) (hn : ns.length ≤ 63) : F_law.sem [.scr ns] = .val (.bl true) := by
  obtain ⟨cs, rs, ws, mo, ca, ch, un, lm, hraw, m, h2, w0, w2, hmo, hM, hlm, hcs, hws, hmo7, hrs, hlm3⟩ := raw_ma hn
  have hl3 := m.co.len
  have hl0 := m.l0
  obtain ⟨f, f1, f2, f3, f4⟩ := law_filling_sem hn 30 (by decide) (tI cs) rs [tI ws, .int mo, .tup [.str ca.s, .str ch.s, .str un.s], tI lm] m.rr (by have := m.rl; omega)
  have f1' : F__law_filling.sem [.scr ns, .int 30, ma cs rs ws mo ca ch un lm] = .val (tI f) := f1
  have hle := LeL.of f2 f3
  have hfl : f.length = cs.length := by rw [f2, m.rl]
  have hf : Fill cs f := ⟨hfl.symm, f4⟩
  have hw : dotI cs f ≤ 40 := by
    have h := hle.top (n := 2) (fun y hy => by have := hrs y hy; omega)
    rcases hcs with rfl | rfl | rfl | rfl | rfl
    all_goals
      match f, hfl with
      | [x], _ =>
        have := h x (by simp)
        simp only [dotI]; omega
      | [x, y], _ =>
        have := h x (by simp)
        have := h y (by simp)
        simp only [dotI]; omega
  have g : Good cs rs ws mo ca lm f := ⟨m, h2, hM, hf, hle, hw⟩
  obtain ⟨e', e1, y3, y4, y5, y6, y7, y8, rfl⟩ := forGo_four (b := forF T_law (.nm 3) L_law_1) (P := fun e => ∃ x3 x4 x5 x6 x7 x8 : Option D, e = [some (.scr ns, false), some (ma cs rs ws mo ca ch un lm, false), some (tI f, false), oS x3, oS x4, oS x5, oS x6, oS x7, oS x8, none, none, none]) ((rgI 0 8).map .int) [some (.scr ns, false), some (ma cs rs ws mo ca ch un lm, false), some (tI f, false), none, none, none, none, none, none, none, none, none] (fun d hd e he => by
    obtain ⟨x3, x4, x5, x6, x7, x8, rfl⟩ := he
    obtain ⟨a, ha, rfl⟩ := List.mem_map.mp hd
    have ha' := mem_rgI.mp ha
    obtain ⟨y4, y5, y6, y7, y8, e⟩ := turnA (ns := ns) g hl0 ch un (a := a) (by omega) (by omega) x4 x5 x6 x7 x8
    exact ⟨_, e, some (.int a), y4, y5, y6, y7, y8, rfl⟩) ⟨none, none, none, none, none, none, rfl⟩
  have hrg : rngD [.int 8] = .val (.lst ((rgI 0 8).map .int)) := rfl
  have hpy := g.payable ch un
  have hfit : ∃ r, fitI ch cs f = 0 :: r := by
    obtain ⟨s, hs⟩ := rule_zero m.co hf ch
    refine ⟨(rgI 1 40).filter fun b => (ruleI ch cs f b).isSome, ?_⟩
    show ((0 : Int) :: rgI 1 40).filter (fun b => (ruleI ch cs f b).isSome) = _
    rw [List.filter_cons, hs]
    rfl
  obtain ⟨r, hfr⟩ := hfit
  rw [hfr] at hpy
  have hix : ∀ xs : List D, ixD (.lst (D.int 0 :: xs)) (.int 0) = .val (.int 0) := fun xs => at_0 _ _
  have hp0 := g.payment ch un (b := 0) (by decide) (by decide)
  have hz : ruleI ch cs f 0 = some (zerosI cs.length) := by
    obtain ⟨s, hs⟩ := rule_zero m.co hf ch
    have hmem := rule_mem m.co hf (Int.le_refl 0) hs
    obtain ⟨⟨l1, l2⟩, l3⟩ := (mem_pay m.co hf (Int.le_refl 0)).mp hmem
    have key : ∀ {cs s : List Int}, s.length = cs.length → (∀ c ∈ cs, 0 < c) → (∀ x ∈ s, 0 ≤ x) → dotI cs s = 0 → s = zerosI cs.length := by
      intro cs
      induction cs with
      | nil => intro s h _ _ _; simpa [zerosI] using h
      | cons c cs ih =>
        intro s hl hc hs hd
        match s, hl with
        | x :: s, hl =>
          have hc0 := hc c (by simp)
          have hx0 := hs x (by simp)
          have hnn := dotI_nonneg (cs := cs) (s := s) (fun z hz => hc z (by simp [hz])) (fun z hz => hs z (by simp [hz]))
          have hcx : 0 ≤ c * x := Int.mul_nonneg (Int.le_of_lt hc0) hx0
          simp only [dotI] at hd
          have hx : x = 0 := by
            have : c * x = 0 := by omega
            rcases Int.mul_eq_zero.mp this with h | h
            · omega
            · exact h
          have := ih (s := s) (by simpa using hl) (fun z hz => hc z (by simp [hz])) (fun z hz => hs z (by simp [hz])) (by omega)
          rw [hx, this]
          rfl
    rw [hs, key (by rw [l1.len, hfl]) m.co.pos l2 l3]
  rw [hz] at hp0
  simp only [optD_some] at hp0
  have hmu : binD .Mult (.tup [.int 0]) (.int (f.length : Int)) = .val (tI (zerosI cs.length)) := by
    rw [bin_mulT _ _ _ (by omega) (by omega) (by simp), hfl]
    simp [repD, tI, zerosI]
  have heq := eq_self (okk_tI (zerosI cs.length)) (Nat.le_trans (dep_tI _) (by decide))
  rw [S_law]
  simp only [List.map_cons] at hpy
  simp [B_law, hraw, f1', hrg, e1, hpy, hix, hp0, len_tI, hmu, heq, big]
end LW

/-! the walk of law_k04_whole_paying: each def keeps what its own text tells; printed by gen.py -/
namespace LW
open PySem L2 PySem.Spec PyProof.Rows CS
def fnl : List He.DefD := [dd "is_int" (top 24), dd "are_ints" (top 25), dd "are_worths" (top 26), dd "is_program" (top 27), dd "is_machine" (top 28), dd "check_machine" (top 29), dd "has_filling" (top 30), dd "check_filling" (top 31), dd "find_worth" (top 32), dd "worth" (top 33), dd "with_program" (top 34), dd "find_payments" (top 36), dd "minus" (top 37), dd "greatest_first" (top 38), dd "fullest_first" (top 39), dd "by_rule" (top 40), dd "less_than" (top 41), dd "find_paid" (top 42), dd "check_paying" (top 43), dd "check_amount" (top 44), dd "payments" (top 45), dd "payment" (top 46), dd "payable" (top 47), dd "paid" (top 48), dd "_law_drawn" (top 50), dd "_law_raw" (top 51), dd "_law_filling" (top 52), dd "_law_unable" (top 53), dd "law" (top 54)]
def gs : List Str := (["is_int", "are_ints", "are_worths", "is_program", "is_machine", "check_machine", "has_filling", "check_filling", "find_worth", "worth", "with_program", "find_payments"] : List Str) ++ (["minus", "greatest_first", "fullest_first", "by_rule", "less_than", "find_paid", "check_paying", "check_amount", "payments", "payment", "payable", "paid"] : List Str) ++ (["_law_drawn", "_law_raw", "_law_filling", "_law_unable", "law"] : List Str)
def fal : List He.Fa := bltFa ++ conFa consts ++ excFa excs ++ gloFa gs
section
variable {P : Program} {w : World} {K : PySem.W.Frag} {mg : Str → Option Value}
theorem K_is_int (C : Cm fnl consts excs gs K mg)  : Kn K P w mg excs F_is_int 1 :=
  kn_mk (T := T_is_int) (N := N_is_int) (body := B_is_int) C 0 rfl rfl (by exact all_nil) rfl (by decide +kernel) (scOk (by decide +kernel)) C_is_int (fun _ _ _ _ _ _ us hl => match us, hl with | [_, _, _], _ => rfl)
theorem K_are_ints (C : Cm fnl consts excs gs K mg) (h0 : Kn K P w mg excs F_is_int 1) : Kn K P w mg excs F_are_ints 2 :=
  kn_mk (T := T_are_ints) (N := N_are_ints) (body := B_are_ints) C 1 rfl rfl (by exact all_cons ⟨1, by decide, h0⟩ (all_nil)) rfl (by decide +kernel) (scOk (by decide +kernel)) C_are_ints (fun _ _ _ _ _ _ us hl => match us, hl with | [_, _, _, _], _ => rfl)
theorem K_are_worths (C : Cm fnl consts excs gs K mg) (h0 : Kn K P w mg excs F_are_ints 2) : Kn K P w mg excs F_are_worths 3 :=
  kn_mk (T := T_are_worths) (N := N_are_worths) (body := B_are_worths) C 2 rfl rfl (by exact all_cons ⟨2, by decide, h0⟩ (all_nil)) rfl (by decide +kernel) (scOk (by decide +kernel)) C_are_worths (fun _ _ _ _ _ _ us hl => match us, hl with | [_, _], _ => rfl)
theorem K_is_program (C : Cm fnl consts excs gs K mg)  : Kn K P w mg excs F_is_program 1 :=
  kn_mk (T := T_is_program) (N := N_is_program) (body := B_is_program) C 3 rfl rfl (by exact all_nil) rfl (by decide +kernel) (scOk (by decide +kernel)) C_is_program (fun _ _ _ _ _ _ us hl => match us, hl with | [_], _ => rfl)
theorem K_is_machine (C : Cm fnl consts excs gs K mg) (h0 : Kn K P w mg excs F_is_program 1) (h1 : Kn K P w mg excs F_are_ints 2) (h2 : Kn K P w mg excs F_are_worths 3) (h3 : Kn K P w mg excs F_is_int 1) : Kn K P w mg excs F_is_machine 4 :=
  kn_mk (T := T_is_machine) (N := N_is_machine) (body := B_is_machine) C 4 rfl rfl (by exact all_cons ⟨1, by decide, h0⟩ (all_cons ⟨2, by decide, h1⟩ (all_cons ⟨3, by decide, h2⟩ (all_cons ⟨1, by decide, h3⟩ (all_nil))))) rfl (by decide +kernel) (scOk (by decide +kernel)) C_is_machine (fun _ _ _ _ _ _ us hl => match us, hl with | [_], _ => rfl)
theorem K_check_machine (C : Cm fnl consts excs gs K mg) (h0 : Kn K P w mg excs F_is_machine 4) : Kn K P w mg excs F_check_machine 5 :=
  kn_mk (T := T_check_machine) (N := N_check_machine) (body := B_check_machine) C 5 rfl rfl (by exact all_cons ⟨4, by decide, h0⟩ (all_nil)) rfl (by decide +kernel) (scOk (by decide +kernel)) C_check_machine (fun _ _ _ _ _ _ us hl => match us, hl with | [_], _ => rfl)
theorem K_has_filling (C : Cm fnl consts excs gs K mg) (h0 : Kn K P w mg excs F_are_ints 2) : Kn K P w mg excs F_has_filling 3 :=
  kn_mk (T := T_has_filling) (N := N_has_filling) (body := B_has_filling) C 6 rfl rfl (by exact all_cons ⟨2, by decide, h0⟩ (all_nil)) rfl (by decide +kernel) (scOk (by decide +kernel)) C_has_filling (fun _ _ _ _ _ _ us hl => match us, hl with | [_, _], _ => rfl)
theorem K_check_filling (C : Cm fnl consts excs gs K mg) (h0 : Kn K P w mg excs F_has_filling 3) : Kn K P w mg excs F_check_filling 4 :=
  kn_mk (T := T_check_filling) (N := N_check_filling) (body := B_check_filling) C 7 rfl rfl (by exact all_cons ⟨3, by decide, h0⟩ (all_nil)) rfl (by decide +kernel) (scOk (by decide +kernel)) C_check_filling (fun _ _ _ _ _ _ us hl => match us, hl with | [_, _], _ => rfl)
theorem K_find_worth (C : Cm fnl consts excs gs K mg)  : Kn K P w mg excs F_find_worth 1 :=
  kn_mk (T := T_find_worth) (N := N_find_worth) (body := B_find_worth) C 8 rfl rfl (by exact all_nil) rfl (by decide +kernel) (scOk (by decide +kernel)) C_find_worth (fun _ _ _ _ _ _ us hl => match us, hl with | [_, _], _ => rfl)
theorem K_worth (C : Cm fnl consts excs gs K mg) (h0 : Kn K P w mg excs F_find_worth 1) (h1 : Kn K P w mg excs F_are_ints 2) (h2 : Kn K P w mg excs F_check_machine 5) : Kn K P w mg excs F_worth 6 :=
  kn_mk (T := T_worth) (N := N_worth) (body := B_worth) C 9 rfl rfl (by exact all_cons ⟨1, by decide, h0⟩ (all_cons ⟨2, by decide, h1⟩ (all_cons ⟨5, by decide, h2⟩ (all_nil)))) rfl (by decide +kernel) (scOk (by decide +kernel)) C_worth (fun _ _ _ _ _ _ us hl => match us, hl with | [_, _], _ => rfl)
theorem K_with_program (C : Cm fnl consts excs gs K mg) (h0 : Kn K P w mg excs F_is_program 1) (h1 : Kn K P w mg excs F_check_machine 5) : Kn K P w mg excs F_with_program 6 :=
  kn_mk (T := T_with_program) (N := N_with_program) (body := B_with_program) C 10 rfl rfl (by exact all_cons ⟨1, by decide, h0⟩ (all_cons ⟨5, by decide, h1⟩ (all_nil))) rfl (by decide +kernel) (scOk (by decide +kernel)) C_with_program (fun _ _ _ _ _ _ us hl => match us, hl with | [_, _], _ => rfl)
theorem K_find_payments_r0 (C : Cm fnl consts excs gs K mg) : Kn K P w mg excs F_find_payments_r0 1 :=
  kn_bad C 11 rfl (by decide +kernel) (fun _ _ _ _ _ _ us hl => match us, hl with | [_, _, _], _ => rfl)
theorem K_find_payments_r1 (C : Cm fnl consts excs gs K mg) (h0 : Kn K P w mg excs F_find_payments_r0 1) : Kn K P w mg excs F_find_payments_r1 2 :=
  kn_mk (T := T_find_payments_r1) (N := N_find_payments) (body := B_find_payments) C 11 rfl rfl (by exact all_cons ⟨1, by decide, h0⟩ (all_nil)) rfl (by decide +kernel) (scOk (by decide +kernel)) C_find_payments_r1 (fun _ _ _ _ _ _ us hl => match us, hl with | [_, _, _], _ => rfl)
theorem K_find_payments_r2 (C : Cm fnl consts excs gs K mg) (h0 : Kn K P w mg excs F_find_payments_r1 2) : Kn K P w mg excs F_find_payments_r2 3 :=
  kn_mk (T := T_find_payments_r2) (N := N_find_payments) (body := B_find_payments) C 11 rfl rfl (by exact all_cons ⟨2, by decide, h0⟩ (all_nil)) rfl (by decide +kernel) (scOk (by decide +kernel)) C_find_payments_r2 (fun _ _ _ _ _ _ us hl => match us, hl with | [_, _, _], _ => rfl)
theorem K_find_payments_r3 (C : Cm fnl consts excs gs K mg) (h0 : Kn K P w mg excs F_find_payments_r2 3) : Kn K P w mg excs F_find_payments_r3 4 :=
  kn_mk (T := T_find_payments_r3) (N := N_find_payments) (body := B_find_payments) C 11 rfl rfl (by exact all_cons ⟨3, by decide, h0⟩ (all_nil)) rfl (by decide +kernel) (scOk (by decide +kernel)) C_find_payments_r3 (fun _ _ _ _ _ _ us hl => match us, hl with | [_, _, _], _ => rfl)
theorem K_find_payments_r4 (C : Cm fnl consts excs gs K mg) (h0 : Kn K P w mg excs F_find_payments_r3 4) : Kn K P w mg excs F_find_payments_r4 5 :=
  kn_mk (T := T_find_payments_r4) (N := N_find_payments) (body := B_find_payments) C 11 rfl rfl (by exact all_cons ⟨4, by decide, h0⟩ (all_nil)) rfl (by decide +kernel) (scOk (by decide +kernel)) C_find_payments_r4 (fun _ _ _ _ _ _ us hl => match us, hl with | [_, _, _], _ => rfl)
theorem K_find_payments (C : Cm fnl consts excs gs K mg) (h0 : Kn K P w mg excs F_find_payments_r4 5) : Kn K P w mg excs F_find_payments 6 :=
  kn_mk (T := T_find_payments) (N := N_find_payments) (body := B_find_payments) C 11 rfl rfl (by exact all_cons ⟨5, by decide, h0⟩ (all_nil)) rfl (by decide +kernel) (scOk (by decide +kernel)) C_find_payments (fun _ _ _ _ _ _ us hl => match us, hl with | [_, _, _], _ => rfl)
theorem K_minus (C : Cm fnl consts excs gs K mg)  : Kn K P w mg excs F_minus 1 :=
  kn_mk (T := T_minus) (N := N_minus) (body := B_minus) C 12 rfl rfl (by exact all_nil) rfl (by decide +kernel) (scOk (by decide +kernel)) C_minus (fun _ _ _ _ _ _ us hl => match us, hl with | [_, _], _ => rfl)
theorem K_greatest_first (C : Cm fnl consts excs gs K mg)  : Kn K P w mg excs F_greatest_first 1 :=
  kn_mk (T := T_greatest_first) (N := N_greatest_first) (body := B_greatest_first) C 13 rfl rfl (by exact all_nil) rfl (by decide +kernel) (scOk (by decide +kernel)) C_greatest_first (fun _ _ _ _ _ _ us hl => match us, hl with | [_, _, _], _ => rfl)
theorem K_fullest_first (C : Cm fnl consts excs gs K mg) (h0 : Kn K P w mg excs F_minus 1) : Kn K P w mg excs F_fullest_first 2 :=
  kn_mk (T := T_fullest_first) (N := N_fullest_first) (body := B_fullest_first) C 14 rfl rfl (by exact all_cons ⟨1, by decide, h0⟩ (all_nil)) rfl (by decide +kernel) (scOk (by decide +kernel)) C_fullest_first (fun _ _ _ _ _ _ us hl => match us, hl with | [_, _, _], _ => rfl)
theorem K_by_rule (C : Cm fnl consts excs gs K mg) (h0 : Kn K P w mg excs F_find_worth 1) (h1 : Kn K P w mg excs F_greatest_first 1) (h2 : Kn K P w mg excs F_fullest_first 2) (h3 : Kn K P w mg excs F_find_payments 6) : Kn K P w mg excs F_by_rule 7 :=
  kn_mk (T := T_by_rule) (N := N_by_rule) (body := B_by_rule) C 15 rfl rfl (by exact all_cons ⟨1, by decide, h0⟩ (all_cons ⟨1, by decide, h1⟩ (all_cons ⟨2, by decide, h2⟩ (all_cons ⟨6, by decide, h3⟩ (all_nil))))) rfl (by decide +kernel) (scOk (by decide +kernel)) C_by_rule (fun _ _ _ _ _ _ us hl => match us, hl with | [_, _, _], _ => rfl)
theorem K_less_than (C : Cm fnl consts excs gs K mg) (h0 : Kn K P w mg excs F_by_rule 7) : Kn K P w mg excs F_less_than 8 :=
  kn_mk (T := T_less_than) (N := N_less_than) (body := B_less_than) C 16 rfl rfl (by exact all_cons ⟨7, by decide, h0⟩ (all_nil)) rfl (by decide +kernel) (scOk (by decide +kernel)) C_less_than (fun _ _ _ _ _ _ us hl => match us, hl with | [_, _, _], _ => rfl)
theorem K_find_paid (C : Cm fnl consts excs gs K mg) (h0 : Kn K P w mg excs F_less_than 8) (h1 : Kn K P w mg excs F_find_worth 1) (h2 : Kn K P w mg excs F_by_rule 7) : Kn K P w mg excs F_find_paid 9 :=
  kn_mk (T := T_find_paid) (N := N_find_paid) (body := B_find_paid) C 17 rfl rfl (by exact all_cons ⟨8, by decide, h0⟩ (all_cons ⟨1, by decide, h1⟩ (all_cons ⟨7, by decide, h2⟩ (all_nil)))) rfl (by decide +kernel) (scOk (by decide +kernel)) C_find_paid (fun _ _ _ _ _ _ us hl => match us, hl with | [_, _, _], _ => rfl)
theorem K_check_paying (C : Cm fnl consts excs gs K mg) (h0 : Kn K P w mg excs F_check_filling 4) (h1 : Kn K P w mg excs F_check_machine 5) : Kn K P w mg excs F_check_paying 6 :=
  kn_mk (T := T_check_paying) (N := N_check_paying) (body := B_check_paying) C 18 rfl rfl (by exact all_cons ⟨4, by decide, h0⟩ (all_cons ⟨5, by decide, h1⟩ (all_nil))) rfl (by decide +kernel) (scOk (by decide +kernel)) C_check_paying (fun _ _ _ _ _ _ us hl => match us, hl with | [_, _], _ => rfl)
theorem K_check_amount (C : Cm fnl consts excs gs K mg) (h0 : Kn K P w mg excs F_is_int 1) : Kn K P w mg excs F_check_amount 2 :=
  kn_mk (T := T_check_amount) (N := N_check_amount) (body := B_check_amount) C 19 rfl rfl (by exact all_cons ⟨1, by decide, h0⟩ (all_nil)) rfl (by decide +kernel) (scOk (by decide +kernel)) C_check_amount (fun _ _ _ _ _ _ us hl => match us, hl with | [_], _ => rfl)
theorem K_payments (C : Cm fnl consts excs gs K mg) (h0 : Kn K P w mg excs F_find_payments 6) (h1 : Kn K P w mg excs F_check_amount 2) (h2 : Kn K P w mg excs F_check_paying 6) : Kn K P w mg excs F_payments 7 :=
  kn_mk (T := T_payments) (N := N_payments) (body := B_payments) C 20 rfl rfl (by exact all_cons ⟨6, by decide, h0⟩ (all_cons ⟨2, by decide, h1⟩ (all_cons ⟨6, by decide, h2⟩ (all_nil)))) rfl (by decide +kernel) (scOk (by decide +kernel)) C_payments (fun _ _ _ _ _ _ us hl => match us, hl with | [_, _, _], _ => rfl)
theorem K_payment (C : Cm fnl consts excs gs K mg) (h0 : Kn K P w mg excs F_by_rule 7) (h1 : Kn K P w mg excs F_check_amount 2) (h2 : Kn K P w mg excs F_check_paying 6) : Kn K P w mg excs F_payment 8 :=
  kn_mk (T := T_payment) (N := N_payment) (body := B_payment) C 21 rfl rfl (by exact all_cons ⟨7, by decide, h0⟩ (all_cons ⟨2, by decide, h1⟩ (all_cons ⟨6, by decide, h2⟩ (all_nil)))) rfl (by decide +kernel) (scOk (by decide +kernel)) C_payment (fun _ _ _ _ _ _ us hl => match us, hl with | [_, _, _], _ => rfl)
theorem K_payable (C : Cm fnl consts excs gs K mg) (h0 : Kn K P w mg excs F_by_rule 7) (h1 : Kn K P w mg excs F_check_paying 6) : Kn K P w mg excs F_payable 8 :=
  kn_mk (T := T_payable) (N := N_payable) (body := B_payable) C 22 rfl rfl (by exact all_cons ⟨7, by decide, h0⟩ (all_cons ⟨6, by decide, h1⟩ (all_nil))) rfl (by decide +kernel) (scOk (by decide +kernel)) C_payable (fun _ _ _ _ _ _ us hl => match us, hl with | [_, _], _ => rfl)
theorem K_paid (C : Cm fnl consts excs gs K mg) (h0 : Kn K P w mg excs F_find_paid 9) (h1 : Kn K P w mg excs F_check_amount 2) (h2 : Kn K P w mg excs F_check_paying 6) : Kn K P w mg excs F_paid 10 :=
  kn_mk (T := T_paid) (N := N_paid) (body := B_paid) C 23 rfl rfl (by exact all_cons ⟨9, by decide, h0⟩ (all_cons ⟨2, by decide, h1⟩ (all_cons ⟨6, by decide, h2⟩ (all_nil)))) rfl (by decide +kernel) (scOk (by decide +kernel)) C_paid (fun _ _ _ _ _ _ us hl => match us, hl with | [_, _, _], _ => rfl)
theorem K__law_drawn (C : Cm fnl consts excs gs K mg)  : Kn K P w mg excs F__law_drawn 1 :=
  kn_mk (T := T__law_drawn) (N := N__law_drawn) (body := B__law_drawn) C 24 rfl rfl (by exact all_nil) rfl (by decide +kernel) (scOk (by decide +kernel)) C__law_drawn (fun _ _ _ _ _ _ us hl => match us, hl with | [_, _, _], _ => rfl)
theorem K__law_raw (C : Cm fnl consts excs gs K mg) (h0 : Kn K P w mg excs F__law_drawn 1) : Kn K P w mg excs F__law_raw 2 :=
  kn_mk (T := T__law_raw) (N := N__law_raw) (body := B__law_raw) C 25 rfl rfl (by exact all_cons ⟨1, by decide, h0⟩ (all_nil)) rfl (by decide +kernel) (scOk (by decide +kernel)) C__law_raw (fun _ _ _ _ _ _ us hl => match us, hl with | [_, _], _ => rfl)
theorem K__law_filling (C : Cm fnl consts excs gs K mg) (h0 : Kn K P w mg excs F__law_drawn 1) : Kn K P w mg excs F__law_filling 2 :=
  kn_mk (T := T__law_filling) (N := N__law_filling) (body := B__law_filling) C 26 rfl rfl (by exact all_cons ⟨1, by decide, h0⟩ (all_nil)) rfl (by decide +kernel) (scOk (by decide +kernel)) C__law_filling (fun _ _ _ _ _ _ us hl => match us, hl with | [_, _, _], _ => rfl)
theorem K__law_unable (C : Cm fnl consts excs gs K mg) (h0 : Kn K P w mg excs F_worth 6) (h1 : Kn K P w mg excs F_payment 8) (h2 : Kn K P w mg excs F_payable 8) (h3 : Kn K P w mg excs F_paid 10) (h4 : Kn K P w mg excs F_with_program 6) : Kn K P w mg excs F__law_unable 11 :=
  kn_mk (T := T__law_unable) (N := N__law_unable) (body := B__law_unable) C 27 rfl rfl (by exact all_cons ⟨6, by decide, h0⟩ (all_cons ⟨8, by decide, h1⟩ (all_cons ⟨8, by decide, h2⟩ (all_cons ⟨10, by decide, h3⟩ (all_cons ⟨6, by decide, h4⟩ (all_nil)))))) rfl (by decide +kernel) (scOk (by decide +kernel)) C__law_unable (fun _ _ _ _ _ _ us hl => match us, hl with | [_, _, _, _], _ => rfl)
theorem K_law (C : Cm fnl consts excs gs K mg) (h0 : Kn K P w mg excs F_payment 8) (h1 : Kn K P w mg excs F_payable 8) (h2 : Kn K P w mg excs F__law_unable 11) (h3 : Kn K P w mg excs F_with_program 6) (h4 : Kn K P w mg excs F_worth 6) (h5 : Kn K P w mg excs F_payments 7) (h6 : Kn K P w mg excs F__law_filling 2) (h7 : Kn K P w mg excs F__law_raw 2) : Kn K P w mg excs F_law 12 :=
  kn_mk (T := T_law) (N := N_law) (body := B_law) C 28 rfl rfl (by exact all_cons ⟨8, by decide, h0⟩ (all_cons ⟨8, by decide, h1⟩ (all_cons ⟨11, by decide, h2⟩ (all_cons ⟨6, by decide, h3⟩ (all_cons ⟨6, by decide, h4⟩ (all_cons ⟨7, by decide, h5⟩ (all_cons ⟨2, by decide, h6⟩ (all_cons ⟨2, by decide, h7⟩ (all_nil))))))))) rfl (by decide +kernel) (scOk (by decide +kernel)) C_law (fun _ _ _ _ _ _ us hl => match us, hl with | [_], _ => rfl)
theorem K_all (C : Cm fnl consts excs gs K mg) : Kn K P w mg excs F_law 12 := by
  have h_is_int : Kn K P w mg excs F_is_int 1 := K_is_int C 
  have h_are_ints : Kn K P w mg excs F_are_ints 2 := K_are_ints C h_is_int
  have h_are_worths : Kn K P w mg excs F_are_worths 3 := K_are_worths C h_are_ints
  have h_is_program : Kn K P w mg excs F_is_program 1 := K_is_program C 
  have h_is_machine : Kn K P w mg excs F_is_machine 4 := K_is_machine C h_is_program h_are_ints h_are_worths h_is_int
  have h_check_machine : Kn K P w mg excs F_check_machine 5 := K_check_machine C h_is_machine
  have h_has_filling : Kn K P w mg excs F_has_filling 3 := K_has_filling C h_are_ints
  have h_check_filling : Kn K P w mg excs F_check_filling 4 := K_check_filling C h_has_filling
  have h_find_worth : Kn K P w mg excs F_find_worth 1 := K_find_worth C 
  have h_worth : Kn K P w mg excs F_worth 6 := K_worth C h_find_worth h_are_ints h_check_machine
  have h_with_program : Kn K P w mg excs F_with_program 6 := K_with_program C h_is_program h_check_machine
  have h_find_payments_r0 : Kn K P w mg excs F_find_payments_r0 1 := K_find_payments_r0 C 
  have h_find_payments_r1 : Kn K P w mg excs F_find_payments_r1 2 := K_find_payments_r1 C h_find_payments_r0
  have h_find_payments_r2 : Kn K P w mg excs F_find_payments_r2 3 := K_find_payments_r2 C h_find_payments_r1
  have h_find_payments_r3 : Kn K P w mg excs F_find_payments_r3 4 := K_find_payments_r3 C h_find_payments_r2
  have h_find_payments_r4 : Kn K P w mg excs F_find_payments_r4 5 := K_find_payments_r4 C h_find_payments_r3
  have h_find_payments : Kn K P w mg excs F_find_payments 6 := K_find_payments C h_find_payments_r4
  have h_minus : Kn K P w mg excs F_minus 1 := K_minus C 
  have h_greatest_first : Kn K P w mg excs F_greatest_first 1 := K_greatest_first C 
  have h_fullest_first : Kn K P w mg excs F_fullest_first 2 := K_fullest_first C h_minus
  have h_by_rule : Kn K P w mg excs F_by_rule 7 := K_by_rule C h_find_worth h_greatest_first h_fullest_first h_find_payments
  have h_less_than : Kn K P w mg excs F_less_than 8 := K_less_than C h_by_rule
  have h_find_paid : Kn K P w mg excs F_find_paid 9 := K_find_paid C h_less_than h_find_worth h_by_rule
  have h_check_paying : Kn K P w mg excs F_check_paying 6 := K_check_paying C h_check_filling h_check_machine
  have h_check_amount : Kn K P w mg excs F_check_amount 2 := K_check_amount C h_is_int
  have h_payments : Kn K P w mg excs F_payments 7 := K_payments C h_find_payments h_check_amount h_check_paying
  have h_payment : Kn K P w mg excs F_payment 8 := K_payment C h_by_rule h_check_amount h_check_paying
  have h_payable : Kn K P w mg excs F_payable 8 := K_payable C h_by_rule h_check_paying
  have h_paid : Kn K P w mg excs F_paid 10 := K_paid C h_find_paid h_check_amount h_check_paying
  have h__law_drawn : Kn K P w mg excs F__law_drawn 1 := K__law_drawn C 
  have h__law_raw : Kn K P w mg excs F__law_raw 2 := K__law_raw C h__law_drawn
  have h__law_filling : Kn K P w mg excs F__law_filling 2 := K__law_filling C h__law_drawn
  have h__law_unable : Kn K P w mg excs F__law_unable 11 := K__law_unable C h_worth h_payment h_payable h_paid h_with_program
  have h_law : Kn K P w mg excs F_law 12 := K_law C h_payment h_payable h__law_unable h_with_program h_worth h_payments h__law_filling h__law_raw
  exact h_law
end
def loose : List Str := (["SlotError", "InvalidMachine", "InvalidCounts", "InvalidProgram", "InvalidFilling", "InvalidAmount", "SAME", "ANY", "GREAT", "FEW", "FULL", "REFUSE"] : List Str) ++ (["SHORT", "KEEP", "OVER", "MAX_COINS", "MAX_WORTH", "MAX_ROOM", "MAX_WARES", "MAX_CREDIT", "MAX_LAMP", "MAX_COUNT", "is_int", "are_ints"] : List Str) ++ (["are_worths", "is_program", "is_machine", "check_machine", "has_filling", "check_filling", "find_worth", "worth", "with_program", "find_payments", "minus", "greatest_first"] : List Str) ++ (["fullest_first", "by_rule", "less_than", "find_paid", "check_paying", "check_amount", "payments", "payment", "payable", "paid", "_law_drawn", "_law_raw"] : List Str) ++ (["_law_filling", "_law_unable"] : List Str)
abbrev R : PySem.W.OpenRow := PySem.W.OpenLaw.row PySem.Challenge.rw_coinslots_k04_whole_paying
abbrev hk : PySem.W.Hook := hookC 5 fal (exFx excs) fnl
def ob (s : PySem.W.SharedT) : He.AlD × Bool := obsCG 5 fal (exFx excs) fnl (HandSHeadRun.getT s)
theorem ob_eq (s : PySem.W.SharedT) : ob s = hk.obs s.abs := obsCG_eq (HandSHeadRun.getT_eq s)
theorem run (w : World) : HandSHeadRun.RunEq R (PySem.W.view R.prog [54]) hk ob 4000 loose w := by
  intro os
  kernel_rfl
end LW

open PySem PySem.W PySem.Calls PyProof.Rows
theorem PySem.Challenge.cw_coinslots_k04_whole_paying_holds : PySem.Challenge.rw_coinslots_k04_whole_paying.Holds := by
  w_on; o_law
  refine HandSHeadRun.head_any (r := OpenLaw.row PySem.Challenge.rw_coinslots_k04_whole_paying) (q := view (OpenLaw.row PySem.Challenge.rw_coinslots_k04_whole_paying).prog [54]) (H := LW.hk) (ob := LW.ob) (M := 4000) (loose := LW.loose) (d := HandSHeadRun.topDef (OpenLaw.row PySem.Challenge.rw_coinslots_k04_whole_paying).prog 54) (kwd := []) LW.ob_eq
    (by kernel_rfl) (fun s => by kernel_rfl) LW.run (by kernel_rfl) (by kernel_rfl) (by kernel_rfl) (by rfl) (by first | assumption | decide +kernel) (by decide +kernel) ⟨rfl, rfl, rfl, rfl, rfl, by decide +kernel⟩ ?hw ?hc
  case hw => w_witness2
  case hc =>
    refine CS.walk_end (l := PySem.Challenge.rw_coinslots_k04_whole_paying) (n := 63) (k := 12) (exs := LW.excs) (f := LW.F_law) rfl (by decide) (by kernel_rfl) ⟨rfl, by decide, by decide⟩ rfl (by kernel_rfl) ?F LW.law_sem
    intro w mg fa h Y G hmg
    obtain ⟨K, KX, c, cx⟩ := Y
    exact ⟨K, KX, LW.K_all (CS.cm_mk KX G (by decide +kernel) (by decide +kernel) c cx)⟩

