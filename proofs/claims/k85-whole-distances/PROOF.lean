import PyProof.Rows.All
import Wide.All
import OpenK.AllK
import Wide.FinOn
import HandS.ForMost
import HandS.Exc
import HandS.ExcOwn
import HandS.TryOnly
import HandS.WordsExc
import HandS.IsInst
import HandS.Conv
import HandS.Zip
import HandS.TupAny
import HandS.Deep
import HandS.Flow
import HandS.Style
import HandS.Defaults
import HandS.TupLe
import HandS.TupMul
import KE.LtData
import KE.DataCmp
import KE.DataMinMax
import KE.SortData
import PyProof.ReprReads
import PyProof.ReprRoads
import PyProof.WalkInts
import PyProof.Rows.StrRules
import KE.GoesMore
import KE.GoesEnum
import HandS.Ends
import HandS.Head0
import HandS.Head1
import HandS.Head2
import HandS.HeadEnd
import HandS.HeadHook1
import HandS.HeadHook2
import PySem.Challenge.RW_deedpiles_k85_whole_distances
set_option Elab.async false
set_option linter.all false
set_option maxRecDepth 100000
/-! Ev0: values, store, syntax and denotation of the small evaluator. -/
namespace DP
open PySem L2

/-- immutable values (trees) -/
inductive IV where
  | non | bl (b : Bool) | int (i : Int) | str (x : Str) | ty (n : String)
  | tup (xs : List IV) | lst (xs : List IV)
  | dic (ks : List Key) (vs : List IV)
  | exn (c : Str) (ns : List Str) (vs : List IV)
  | glo (x : Str)
  | scr (ns : List Int)
  deriving Inhabited

/-- a value of the running def: a tree, or a mutable object of the store -/
inductive PV where
  | iv (x : IV) | ref (n : Nat)
  deriving Inhabited

/-- a mutable object -/
inductive OB where
  | lst (xs : List IV)
  | dK (ks : List Key) (vs : List IV)
  | drw (cells great : List Int) (spot : Int)
  | dead
  deriving Inhabited
abbrev OS := List OB
abbrev Env := List (Option PV)

inductive Res (α : Type) where
  | ok (a : α) (os : OS)
  | exc (c : Str) (ns : List Str) (vs : List IV) (os : OS)
  | bad

/-- what a statement comes to -/
inductive SR where
  | nx (env : Env) (os : OS) | rt (v : PV) (os : OS) | bk (env : Env) (os : OS) | ct (env : Env) (os : OS)
  | exc (c : Str) (ns : List Str) (vs : List IV) (env : Env) (os : OS)
  | bad

/-- assignment targets -/
inductive T where
  | n (i : Nat) | t (ts : List T)

/-- built-in functions -/
inductive Bi where
  | len | abs | int | all | any | sum | min | max | tuple | isi | repr
  deriving DecidableEq

inductive E where
  | c (v : IV)
  | v (i : Nat)
  | g (x : Str) (v : IV)
  | bin (op : Operator) (a b : E)
  | cat (a b : E)
  | neg (a : E)
  | not (a : E)
  | and (a b : E)
  | or (a b : E)
  | cmp (op : CmpOp) (a b : E)
  | chain (op op' : CmpOp) (a b c : E)
  | ite (c a b : E)
  | tup (es : List E)
  | lst (m : Bool) (es : List E)
  | idx (a b : E)
  | sLo (a lo : E)
  | sHi (a hi : E)
  | sBo (a lo hi : E)
  | rev (a : E)
  | lc (m : Bool) (own : List Nat) (tg : T) (it : E) (ifs : List E) (elt : E)
  | call (m : Bool) (f : Nat) (es : List E)
  | bi (b : Bi) (es : List E)
  | lstOf (m : Bool) (e : E)
  | srt (m : Bool) (e : E)
  | app (a e : E)
  | pop (a : E)
  | popAt (a i : E)
  | ext (a e : E)
  | it (a : E)
  | rng1 (a : E)
  | rng2 (a b : E)
  | enum (e : E)
  | zip (a b : E)

inductive S where
  | ex (e : E)
  | asg (t : T) (e : E)
  | par (is : List Nat) (es : List E)
  | sub (o i e : E)
  | aug (i : Nat) (op : Operator) (e : E)
  | ife (c : E) (a b : List S)
  | for (t : T) (it : E) (b : List S)
  | whl (c : E) (b : List S)
  | ret (e : E)
  | retN
  | brk
  | cnt
  | pas
  | frz (i : Nat)
  | never

/-! ### data -/
mutual
def toD : IV → Option PyData
  | .non => some .none
  | .bl b => some (.bool b)
  | .int i => some (.int i)
  | .str x => some (.str x)
  | .tup xs => (toDs xs).map PyData.tuple
  | .lst xs => (toDs xs).map PyData.list
  | _ => none
def toDs : List IV → Option (List PyData)
  | [] => some []
  | x :: xs => (toD x).bind fun d => (toDs xs).map fun ds => d :: ds
end
def isStr : IV → Option Str
  | .str x => some x
  | _ => none
def eqIV (x y : IV) : Option Bool := match isStr x, isStr y with
  | some a, some b => some (decide (a = b))
  | _, _ => (toD x).bind fun d => (toD y).bind fun e => if SeqAt.shaped d && SeqAt.shaped e then some (PyData.eqv d e) else none

/-- a value as it may be read now -/
def rd (os : OS) : PV → Option IV
  | .iv x => some x
  | .ref k => match os[k]? with
    | some (.lst xs) => some (.lst xs)
    | some (.dK ks vs) => some (.dic ks vs)
    | _ => none

def rdAll (os : OS) : List PV → Option (List IV)
  | [] => some []
  | v :: vs => (rd os v).bind fun x => (rdAll os vs).map (x :: ·)

def szOk (n : Nat) : Bool := Nat.ble n 16777216

def bit64 (i : Int) : Bool := decide (-(2 ^ 64) < i) && decide (i < 2 ^ 64)

def binIV (op : Operator) (x y : IV) : Option IV :=
  match op with
  | .Add => (match x, y with
    | .int i, .int j => some (.int (i + j))
    | .str i, .str j => if szOk (i.length + j.length) then some (.str (i ++ j)) else none
    | .tup xs, .tup ys => if szOk (xs.length + ys.length) then some (.tup (xs ++ ys)) else none
    | .lst xs, .lst ys => if szOk (xs.length + ys.length) then some (.lst (xs ++ ys)) else none
    | _, _ => none)
  | .Sub => (match x, y with
    | .int i, .int j => some (.int (i - j))
    | _, _ => none)
  | .Mult => (match x, y with
    | .int i, .int j => if bit64 i || bit64 j then some (.int (i * j)) else none
    | .lst xs, .int k => if decide (0 ≤ k) && decide (k ≤ 1000000) && szOk (xs.length * k.toNat) then some (.lst (List.replicate k.toNat xs).flatten) else none
    | .tup xs, .int k => if decide (2 ≤ k) && decide (k ≤ 1000) && Nat.ble xs.length 1000 && Nat.ble 1 xs.length then some (.tup (List.replicate k.toNat xs).flatten) else none
    | _, _ => none)
  | .FloorDiv => (match x, y with
    | .int i, .int j => if decide (0 < j) && decide (j < 1073741824) then some (.int (i / j)) else none
    | _, _ => none)
  | .Mod => (match x, y with
    | .int i, .int j => if decide (0 < j) then some (.int (i % j)) else none
    | _, _ => none)
  | .Pow => (match x, y with
    | .int i, .int j => if decide (0 ≤ j) && decide (j ≤ 1000) && bit64 i then some (.int (i ^ j.toNat)) else none
    | _, _ => none)
  | _ => none

def nnD : PyData → Bool
  | .none => false
  | _ => true
/-- two data that can be ordered -/
def ordIV (x y : IV) : Option (PyData × PyData) := (toD x).bind fun d => (toD y).bind fun e =>
  if SeqAt.shaped d && SeqAt.shaped e && PySem.W.alike d e && nnD d then some (d, e) else none
def keyIV : IV → Option Key
  | .int i => some (Sum.inl i)
  | .str x => some (Sum.inr x)
  | _ => none
def inIV (x y : IV) : Option Bool := match y with
  | .lst ys => (toD x).bind fun d => (toDs ys).bind fun ds => if SeqAt.shaped d && SeqAt.shaped (.list ds) then some (ds.any fun z => PyData.eqv z d) else none
  | .tup ys => (toD x).bind fun d => (toDs ys).bind fun ds => if SeqAt.shaped d && SeqAt.shaped (.tuple ds) then some (ds.any fun z => PyData.eqv z d) else none
  | .str z => (match x with
    | .str c => some (!(Builtin.Str.occurrences z c 0 z.length 1).isEmpty)
    | _ => none)
  | _ => none
def isBlP : PV → Option Bool
  | .iv (.bl b) => some b
  | _ => none
def isNonP : PV → Bool
  | .iv .non => true
  | _ => false
def cmpIV (op : CmpOp) (x y : IV) : Option Bool := match op with
  | .Eq => eqIV x y
  | .NotEq => (eqIV x y).map (!·)
  | .Lt => (ordIV x y).map fun p => PySem.W.dataLt p.1 p.2
  | .Gt => (ordIV x y).map fun p => PySem.W.dataLt p.2 p.1
  | .LtE => (ordIV x y).map fun p => !PySem.W.dataLt p.2 p.1
  | .GtE => (ordIV x y).map fun p => !PySem.W.dataLt p.1 p.2
  | .In => inIV x y
  | .NotIn => (inIV x y).map (!·)
  | _ => none
/-- a comparison of two values as they may be read now; is, is not: with None alone -/
def cmpPV (os : OS) (op : CmpOp) (x y : PV) : Option Bool := match op with
  | .Is => if isNonP y then some (isNonP x) else (isBlP x).bind fun a => (isBlP y).map fun b => decide (a = b)
  | .IsNot => if isNonP y then some (!isNonP x) else (isBlP x).bind fun a => (isBlP y).map fun b => !decide (a = b)
  | op => (rd os x).bind fun a => (rd os y).bind fun b => cmpIV op a b

/-! ### built-in functions -/
def blsOf : List IV → Option (List Bool)
  | [] => some []
  | .bl b :: r => (blsOf r).map (b :: ·)
  | _ => none
def intsOf : List IV → Option (List Int)
  | [] => some []
  | .int i :: r => (intsOf r).map (i :: ·)
  | _ => none
mutual
/-- a bound of the length of repr -/
def cost : PyData → Nat
  | .none => 8
  | .bool _ => 8
  | .int _ => 1930
  | .str x => 12 * x.length + 12
  | .list xs => costs xs + 8
  | .tuple xs => costs xs + 8
  | .dict _ => 0
def costs : List PyData → Nat
  | [] => 0
  | x :: xs => cost x + 2 + costs xs
end
def reprIV (x : IV) : Option IV := (toD x).bind fun d => if PyData.showable d && SeqAt.shaped d && szOk (cost d) then some (.str d.shown) else none
mutual
def ofD : PyData → IV
  | .none => .non
  | .bool b => .bl b
  | .int i => .int i
  | .str x => .str x
  | .list xs => .lst (ofDs xs)
  | .tuple xs => .tup (ofDs xs)
  | .dict _ => .non
def ofDs : List PyData → List IV
  | [] => []
  | x :: xs => ofD x :: ofDs xs
end
def alikeAllB (xs : List PyData) : Bool := xs.all fun x => nnD x && SeqAt.shaped x && xs.all fun y => PySem.W.alike x y
def minIV (xs : List IV) : Option IV := (toDs xs).bind fun ds => match ds with
  | [] => none
  | d :: r => if alikeAllB (d :: r) then some (ofD (PySem.W.minD d r)) else none
def maxIV (xs : List IV) : Option IV := (toDs xs).bind fun ds => match ds with
  | [] => none
  | d :: r => if alikeAllB (d :: r) then some (ofD (PySem.W.maxD d r)) else none
def isTupNe : PyData → Bool
  | .tuple (_ :: _) => true
  | _ => false
def isTup : PyData → Bool
  | .tuple _ => true
  | _ => false
def sortableB (ds : List PyData) : Bool := ds.all isTupNe || ds.all fun d => !isTup d
def sortIV (xs : List IV) : Option (List IV) := (toDs xs).bind fun ds => if alikeAllB ds && szOk ds.length && sortableB ds then some (ofDs (ds.mergeSort (PySem.W.dataLe false id))) else none

/-- the name of a value's class -/
def tyIV : IV → Option String
  | .non => some "NoneType"
  | .bl _ => some "bool"
  | .int _ => some "int"
  | .str _ => some "str"
  | .tup _ => some "tuple"
  | .lst _ => some "list"
  | .dic _ _ => some "dict"
  | _ => none
def isiIV (x c : IV) : Option Bool := match c with
  | .ty n => (tyIV x).bind fun t => if ["int", "bool", "str", "tuple", "list", "dict"].contains n then some (t == n || (t == "bool" && n == "int")) else none
  | _ => none
def biIV (b : Bi) (xs : List IV) : Option IV := match b with
  | .len => (match xs with
    | [.tup ys] => some (.int ys.length)
    | [.lst ys] => some (.int ys.length)
    | [.str z] => if szOk z.length then some (.int z.length) else none
    | [.scr ns] => some (.int ns.length)
    | _ => none)
  | .abs => (match xs with
    | [.int i] => some (.int (if i < 0 then -i else i))
    | _ => none)
  | .int => (match xs with
    | [.int i] => some (.int i)
    | [.bl b] => some (.int (if b then 1 else 0))
    | _ => none)
  | .all => (match xs with
    | [.lst ys] => (blsOf ys).map fun bs => .bl (bs.all id)
    | _ => none)
  | .any => (match xs with
    | [.lst ys] => (blsOf ys).map fun bs => .bl (bs.any id)
    | _ => none)
  | .sum => (match xs with
    | [.lst ys] => (intsOf ys).map fun ns => .int ns.sum
    | _ => none)
  | .min => (match xs with
    | [.lst ys] => minIV ys
    | [.int i, .int j] => some (.int (if j < i then j else i))
    | [.str x, .str y] => some (.str (if PySem.W.dataLt (.str y) (.str x) = true then y else x))
    | _ => none)
  | .max => (match xs with
    | [.lst ys] => maxIV ys
    | [.int i, .int j] => some (.int (if j > i then j else i))
    | [.str x, .str y] => some (.str (if PySem.W.dataLt (.str x) (.str y) = true then y else x))
    | _ => none)
  | .tuple => (match xs with
    | [.lst ys] => some (.tup ys)
    | [.tup ys] => some (.tup ys)
    | _ => none)
  | .isi => (match xs with
    | [x, c] => (isiIV x c).map .bl
    | _ => none)
  | .repr => (match xs with
    | [x] => reprIV x
    | _ => none)

/-! ### places and slices -/
def idxIV (x i : IV) : Option IV := match x, i with
  | .tup xs, .int k => atI xs k
  | .lst xs, .int k => atI xs k
  | .str z, .int k => if szOk z.length then (atI z.cps.toList k).map fun c => .str ⟨#[c]⟩ else none
  | _, _ => none
def cutI {α : Type} (xs : List α) (lo hi : Option Int) : List α := (xs.drop (HT.sIx xs.length 0 lo)).take (HT.sIx xs.length xs.length hi - HT.sIx xs.length 0 lo)
def slcIV (x : IV) (lo hi : Option Int) : Option IV := match x with
  | .tup xs => some (.tup (cutI xs lo hi))
  | .lst xs => some (.lst (cutI xs lo hi))
  | .str z => if szOk z.length then some (.str (cutS z lo hi)) else none
  | _ => none
def revIV : IV → Option IV
  | .lst xs => some (.lst xs.reverse)
  | .tup xs => some (.tup xs.reverse)
  | _ => none

/-! ### stores -/
def asgL (f : T → IV → Env → Option Env) : List T → List IV → Env → Option Env
  | [], [], env => some env
  | t :: ts, x :: xs, env => (f t x env).bind fun e => asgL f ts xs e
  | _, _, _ => none
mutual
def asgT : T → IV → Env → Option Env
  | .n i, x, env => if i < env.length then some (env.set i (some (.iv x))) else none
  | .t ts, x, env => (match x with
    | .tup xs => asgTs ts xs env
    | .lst xs => asgTs ts xs env
    | _ => none)
def asgTs : List T → List IV → Env → Option Env
  | [], [], env => some env
  | t :: ts, x :: xs, env => (asgT t x env).bind fun e => asgTs ts xs e
  | _, _, _ => none
end
def asgP (t : T) (v : PV) (env : Env) : Option Env := match t with
  | .n i => if i < env.length then some (env.set i (some v)) else none
  | .t ts => (match v with
    | .iv x => asgT (.t ts) x env
    | .ref _ => none)

/-! ### the law's draws -/
def mixed (cell n : Int) : Int := ((cell * (1 + 2 * n) * 48271) % 2147483647 + 7919 * n * n + 104729 * n) * 69621 % 2147483629 / 7
def drawVal (cells great : List Int) (spot limit : Int) : Int :=
  match great[(spot % great.length).toNat]? with
  | some c => if 0 < c then c % limit else mixed (mixed (cells.getD (spot % 64).toNat 0 + 31 * (spot / 64)) spot) (spot + 7) % limit
  | none => mixed (mixed (cells.getD (spot % 64).toNat 0 + 31 * (spot / 64)) spot) (spot + 7) % limit
def drawGreat (great : List Int) (spot limit : Int) : List Int :=
  match great[(spot % great.length).toNat]? with
  | some c => if 0 < c then great.set (spot % great.length).toNat (c / limit) else great
  | none => great
def drawOk (cells : List Int) (spot limit : Int) : Bool := cells.length == 64 && decide (0 ≤ spot) && decide (spot < 1152921504606846976) && decide (0 < limit) && decide (limit < 1073741824)

/-! ### functions of the program -/
/-- what a function gives: a tree, or an object that it made -/
inductive Out where
  | iv (x : IV) | ob (o : OB)
  deriving Inhabited
structure Fn where
  name : Str
  ps : List Str
  bor : List Bool
  run : List PV → OS → Res Out
instance : Inhabited Fn := ⟨⟨"", [], [], fun _ _ => .bad⟩⟩
/-- the functions by their numbers -/
abbrev FS := List (Nat × Fn)
def lookF : FS → Nat → Option Fn
  | [], _ => none
  | (i, F) :: r, n => bif Nat.beq i n then some F else lookF r n

def Res.bind {α β : Type} (r : Res α) (f : α → OS → Res β) : Res β := match r with
  | .ok a os => f a os
  | .exc c ns vs os => .exc c ns vs os
  | .bad => .bad
def Res.lift {α : Type} (o : Option α) (os : OS) : Res α := match o with
  | some a => .ok a os
  | none => .bad

def Res.noX {α : Type} (r : Res α) : Res α := match r with
  | .ok a os => .ok a os
  | _ => .bad

/-- the objects that a call borrows -/
def borKs : List Bool → List PV → Option (List Nat)
  | [], [] => some []
  | true :: bs, .ref k :: vs => (borKs bs vs).bind fun ks => if ks.contains k then none else some (k :: ks)
  | false :: bs, _ :: vs => borKs bs vs
  | _, _ => none
/-- the callee's arguments -/
def lendA (os : OS) (ks : List Nat) : List Bool → List PV → Nat → Option (List PV)
  | [], [], _ => some []
  | true :: bs, _ :: vs, j => (lendA os ks bs vs (j + 1)).map (.ref j :: ·)
  | false :: bs, .iv x :: vs, j => (lendA os ks bs vs j).map (.iv x :: ·)
  | false :: bs, .ref k :: vs, j => if ks.contains k then none else (rd os (.ref k)).bind fun x => (lendA os ks bs vs j).map (.iv x :: ·)
  | _, _, _ => none
/-- is an object lent to be read? -/
def snapd : List Bool → List PV → Bool
  | false :: _, .ref _ :: _ => true
  | _ :: bs, _ :: vs => snapd bs vs
  | _, _ => false
mutual
/-- no list, no dict within -/
def noL : IV → Bool
  | .lst _ => false
  | .dic _ _ => false
  | .tup xs => noLs xs
  | .exn _ _ xs => noLs xs
  | _ => true
def noLs : List IV → Bool
  | [] => true
  | x :: xs => noL x && noLs xs
end
def obNo : OB → Bool
  | .lst xs => noLs xs
  | .dK _ xs => noLs xs
  | .drw _ _ _ => true
  | .dead => true
def notDead : OB → Bool
  | .dead => false
  | _ => true
def outNo : Out → Bool
  | .iv x => noL x
  | .ob o => obNo o
def objsAt (os : OS) : List Nat → Option OS
  | [] => some []
  | k :: ks => (os[k]?).bind fun o => if notDead o then (objsAt os ks).map (o :: ·) else none
def putBack : OS → List Nat → OS → OS
  | os, k :: ks, o :: r => putBack (os.set k o) ks r
  | os, _, _ => os
/-- a given object, read or taken over -/
def adopt (m : Bool) (v : Out) (os : OS) : Res PV := match m, v with
  | false, .iv x => .ok (.iv x) os
  | false, .ob (.lst xs) => .ok (.iv (.lst xs)) os
  | false, .ob (.dK ks xs) => .ok (.iv (.dic ks xs)) os
  | true, .ob o => if notDead o then .ok (.ref os.length) (os ++ [o]) else .bad
  | _, _ => .bad
def callF (m : Bool) (f : Fn) (args : List PV) (os : OS) : Res PV := match borKs f.bor args with
  | none => .bad
  | some ks => (match lendA os ks f.bor args 0, objsAt os ks with
    | some as, some bs => (match f.run as bs with
      | .ok v os' => if os'.all notDead && (!snapd f.bor args || outNo v && os'.all obNo) then adopt m v (putBack os ks os') else .bad
      | .exc c ns vs os' => if os'.all notDead && (!snapd f.bor args || noLs vs && os'.all obNo) then .exc c ns vs (putBack os ks os') else .bad
      | .bad => .bad)
    | _, _ => .bad)

/-- one item of a comprehension -/
def compStep (own : List Nat) (tg : T) (env : Env) (ifs : Env → OS → Res Bool) (elt : Env → OS → Res PV) (x : IV) (os : OS) : Res (Option IV) :=
  match asgT tg x env with
  | none => .bad
  | some env' => (ifs env' os).noX.bind fun b os1 => if b then (elt env' os1).noX.bind fun v os2 => (match v with
      | .iv y => .ok (some y) os2
      | .ref _ => .bad) else .ok none os1
def compGo (turn : IV → OS → Res (Option IV)) : List IV → List IV → OS → Res (List IV)
  | [], acc, os => .ok acc os
  | x :: xs, acc, os => (turn x os).bind fun o os1 => (match o with
    | some y => if szOk (acc.length + 1) then compGo turn xs (acc ++ [y]) os1 else .bad
    | none => compGo turn xs acc os1)
def wipeE (env : Env) : List Nat → Env
  | [] => env
  | v :: vs => (wipeE env vs).set v none
def mkList (m : Bool) (xs : List IV) (os : OS) : Res PV := if m then .ok (.ref os.length) (os ++ [.lst xs]) else .ok (.iv (.lst xs)) os
def rngL (lo : Int) (n : Nat) : List IV := (List.range n).map fun (i : Nat) => IV.int (lo + i)
def enumL : Nat → List IV → List IV
  | _, [] => []
  | n, x :: xs => .tup [.int n, x] :: enumL (n + 1) xs
def zipL : List IV → List IV → List IV
  | x :: xs, y :: ys => .tup [x, y] :: zipL xs ys
  | _, _ => []
def seqIV : IV → Option (List IV)
  | .tup xs => some xs
  | .lst xs => some xs
  | _ => none
def enIV : IV → Option (List IV)
  | .tup xs => some xs
  | .lst xs => some xs
  | .scr ns => some (ns.map IV.int)
  | _ => none
def itIV : IV → Option (List IV)
  | .tup xs => some xs
  | .lst xs => some xs
  | .str z => some (z.cps.toList.map fun c => .str ⟨#[c]⟩)
  | .scr ns => some (ns.map IV.int)
  | _ => none
def rngOk (i : Int) : Bool := decide (-(2 ^ 62) ≤ i) && decide (i < 2 ^ 62)
def rng1F (x : PV) (os : OS) : Res (List IV) := match x with
  | .iv (.int j) => if rngOk j then .ok (rngL 0 j.toNat) os else .bad
  | _ => .bad
def rng2F (x y : PV) (os : OS) : Res (List IV) := match x, y with
  | .iv (.int i), .iv (.int j) => if rngOk i && rngOk j then .ok (rngL i (j - i).toNat) os else .bad
  | _, _ => .bad

/-! ### lists that change -/
def isL (os : OS) : PV → Bool
  | .ref k => (match os[k]? with
    | some (.lst _) => true
    | _ => false)
  | _ => false
def appF (x y : PV) (os : OS) : Res PV := match x, y with
  | .ref k, .iv v => (match os[k]? with
    | some (.lst xs) => if szOk (xs.length + 1) then .ok (.iv .non) (os.set k (.lst (xs ++ [v]))) else .bad
    | _ => .bad)
  | _, _ => .bad
def popF (x : PV) (os : OS) : Res PV := match x with
  | .ref k => (match os[k]? with
    | some (.lst xs) => (match xs[xs.length - 1]? with
      | some y => .ok (.iv y) (os.set k (.lst xs.dropLast))
      | none => .bad)
    | _ => .bad)
  | _ => .bad
def popAtF (x y : PV) (os : OS) : Res PV := match x, y with
  | .ref k, .iv (.int i) => (match os[k]? with
    | some (.lst xs) => (match ixN xs.length i with
      | some j => (match xs[j]? with
        | some y => if szOk xs.length then .ok (.iv y) (os.set k (.lst (xs.eraseIdx j))) else .bad
        | none => .bad)
      | none => .bad)
    | _ => .bad)
  | _, _ => .bad
def extF (x y : PV) (os : OS) : Res PV := match x, rd os y with
  | .ref k, some (.lst ys) => (match os[k]? with
    | some (.lst xs) => if szOk (xs.length + ys.length) then .ok (.iv .non) (os.set k (.lst (xs ++ ys))) else .bad
    | _ => .bad)
  | _, _ => .bad
def setF (x y : PV) (v : IV) (os : OS) : Option OS := match x, y with
  | .ref k, .iv (.int i) => (match os[k]? with
    | some (.lst xs) => (ixN xs.length i).map fun j => os.set k (.lst (xs.set j v))
    | _ => none)
  | _, _ => none

/-- two lists, one behind the other, as a new object -/
def catF (x y : PV) (os : OS) : Res PV := match rd os x, rd os y with
  | some (.lst xs), some (.lst ys) => if szOk (xs.length + ys.length) then mkList true (xs ++ ys) os else .bad
  | _, _ => .bad

mutual
def denE (fs : FS) : E → Env → OS → Res PV
  | .c v, _, os => .ok (.iv v) os
  | .v i, env, os => (match env[i]? with
    | some (some v) => .ok v os
    | _ => .bad)
  | .g _ v, _, os => .ok (.iv v) os
  | .bin op a b, env, os => (denE fs a env os).bind fun x os1 => (denE fs b env os1).bind fun y os2 =>
      .lift (((rd os2 x).bind fun x => (rd os2 y).bind fun y => binIV op x y).map .iv) os2
  | .cat a b, env, os => (denE fs a env os).bind fun x os1 => (denE fs b env os1).bind fun y os2 => catF x y os2
  | .neg a, env, os => (denE fs a env os).bind fun x os1 => (match x with
    | .iv (.int i) => .ok (.iv (.int (-i))) os1
    | _ => .bad)
  | .not a, env, os => (denE fs a env os).bind fun x os1 => (match x with
    | .iv (.bl b) => .ok (.iv (.bl (!b))) os1
    | _ => .bad)
  | .and a b, env, os => (denE fs a env os).bind fun x os1 => (match x with
    | .iv (.bl true) => denE fs b env os1
    | .iv (.bl false) => .ok (.iv (.bl false)) os1
    | _ => .bad)
  | .or a b, env, os => (denE fs a env os).bind fun x os1 => (match x with
    | .iv (.bl true) => .ok (.iv (.bl true)) os1
    | .iv (.bl false) => denE fs b env os1
    | _ => .bad)
  | .cmp op a b, env, os => (denE fs a env os).bind fun x os1 => (denE fs b env os1).bind fun y os2 => .lift ((cmpPV os2 op x y).map fun b => .iv (.bl b)) os2
  | .chain op op' a b c, env, os => (denE fs a env os).bind fun x os1 => (denE fs b env os1).bind fun y os2 => (match cmpPV os2 op x y with
    | some true => (denE fs c env os2).bind fun z os3 => .lift ((cmpPV os3 op' y z).map fun b => .iv (.bl b)) os3
    | some false => .ok (.iv (.bl false)) os2
    | none => .bad)
  | .ite c a b, env, os => (denE fs c env os).bind fun x os1 => (match x with
    | .iv (.bl true) => denE fs a env os1
    | .iv (.bl false) => denE fs b env os1
    | _ => .bad)
  | .tup es, env, os => (denEs fs es env os).bind fun xs os1 => if szOk xs.length then .ok (.iv (.tup xs)) os1 else .bad
  | .lst m es, env, os => (denEs fs es env os).bind fun xs os1 => if szOk xs.length then mkList m xs os1 else .bad
  | .idx a b, env, os => (denE fs a env os).bind fun x os1 => (denE fs b env os1).bind fun y os2 =>
      .lift (((rd os2 x).bind fun x => (rd os2 y).bind fun y => idxIV x y).map .iv) os2
  | .sLo a lo, env, os => (denE fs a env os).bind fun x os1 => (denE fs lo env os1).bind fun l os2 => (match l with
    | .iv (.int i) => .lift (((rd os2 x).bind fun x => slcIV x (some i) none).map .iv) os2
    | _ => .bad)
  | .sHi a hi, env, os => (denE fs a env os).bind fun x os1 => (denE fs hi env os1).bind fun l os2 => (match l with
    | .iv (.int i) => .lift (((rd os2 x).bind fun x => slcIV x none (some i)).map .iv) os2
    | _ => .bad)
  | .sBo a lo hi, env, os => (denE fs a env os).bind fun x os1 => (denE fs lo env os1).bind fun l os2 => (match l with
    | .iv (.int i) => (denE fs hi env os2).bind fun h os3 => (match h with
      | .iv (.int j) => .lift (((rd os3 x).bind fun x => slcIV x (some i) (some j)).map .iv) os3
      | _ => .bad)
    | _ => .bad)
  | .rev a, env, os => (denE fs a env os).bind fun x os1 => .lift (((rd os1 x).bind revIV).map .iv) os1
  | .lc m own tg it ifs elt, env, os => (denI fs it env os).bind fun xs os1 =>
      (compGo (compStep own tg (wipeE env own) (denTs fs ifs) (denE fs elt)) xs [] os1).bind fun ys os2 => mkList m ys os2
  | .call m f es, env, os => (denPs fs es env os).bind fun vs os1 => (match lookF fs f with
    | some F => callF m F vs os1
    | none => .bad)
  | .bi b es, env, os => (denPs fs es env os).bind fun vs os1 => .lift (((rdAll os1 vs).bind fun xs => biIV b xs).map .iv) os1
  | .lstOf m e, env, os => (denE fs e env os).bind fun x os1 => (match (rd os1 x).bind seqIV with
    | some xs => mkList m xs os1
    | none => .bad)
  | .srt m e, env, os => (denE fs e env os).bind fun x os1 => (match rd os1 x with
    | some (.lst xs) => (match sortIV xs with
      | some ys => mkList m ys os1
      | none => .bad)
    | _ => .bad)
  | .app a e, env, os => (denE fs a env os).bind fun x os1 => if isL os1 x then (denE fs e env os1).bind fun y os2 => appF x y os2 else .bad
  | .pop a, env, os => (denE fs a env os).bind fun x os1 => popF x os1
  | .popAt a i, env, os => (denE fs a env os).bind fun x os1 => if isL os1 x then (denE fs i env os1).bind fun y os2 => popAtF x y os2 else .bad
  | .ext a e, env, os => (denE fs a env os).bind fun x os1 => if isL os1 x then (denE fs e env os1).bind fun y os2 => extF x y os2 else .bad
  | .it _, _, _ => .bad
  | .rng1 _, _, _ => .bad
  | .rng2 _ _, _, _ => .bad
  | .enum _, _, _ => .bad
  | .zip _ _, _, _ => .bad
/-- trees, one after another -/
def denEs (fs : FS) : List E → Env → OS → Res (List IV)
  | [], _, os => .ok [] os
  | e :: es, env, os => (denE fs e env os).bind fun v os1 => (match v with
    | .iv x => (denEs fs es env os1).bind fun xs os2 => .ok (x :: xs) os2
    | .ref _ => .bad)
def denPs (fs : FS) : List E → Env → OS → Res (List PV)
  | [], _, os => .ok [] os
  | e :: es, env, os => (denE fs e env os).bind fun v os1 => (denPs fs es env os1).bind fun vs os2 => .ok (v :: vs) os2
/-- tests -/
def denTs (fs : FS) : List E → Env → OS → Res Bool
  | [], _, os => .ok true os
  | e :: _, env, os => (denE fs e env os).bind fun v os1 => (match v with
    | .iv (.bl b) => .ok b os1
    | _ => .bad)
/-- what is walked -/
def denI (fs : FS) : E → Env → OS → Res (List IV)
  | .rng1 a, env, os => (denE fs a env os).bind fun x os1 => rng1F x os1
  | .rng2 a b, env, os => (denE fs a env os).bind fun x os1 => (denE fs b env os1).bind fun y os2 => rng2F x y os2
  | .enum e, env, os => (denE fs e env os).bind fun x os1 => (match x with
    | .iv y => .lift ((enIV y).map (enumL 0)) os1
    | .ref _ => .bad)
  | .zip a b, env, os => (denE fs a env os).bind fun x os1 => (denE fs b env os1).bind fun y os2 => (match x, y with
    | .iv (.tup xs), .iv (.tup ys) => .ok (zipL xs ys) os2
    | .iv (.lst xs), .iv (.lst ys) => .ok (zipL xs ys) os2
    | _, _ => .bad)
  | .it e, env, os => (denE fs e env os).bind fun x os1 => (match x with
    | .iv y => .lift (itIV y) os1
    | .ref _ => .bad)
  | _, _, _ => .bad
end

def SR.then (r : SR) (f : Env → OS → SR) : SR := match r with
  | .nx env os => f env os
  | r => r
def Res.toSR {α : Type} (r : Res α) (env : Env) (f : α → OS → SR) : SR := match r with
  | .ok a os => f a os
  | .exc c ns vs os => .exc c ns vs env os
  | .bad => .bad
/-- a loop over items -/
def forGo (turn : IV → Env → OS → SR) : List IV → Env → OS → SR
  | [], env, os => .nx env os
  | x :: xs, env, os => (match turn x env os with
    | .nx env' os' => forGo turn xs env' os'
    | .ct env' os' => forGo turn xs env' os'
    | .bk env' os' => .nx env' os'
    | r => r)
def whlGo (c : Env → OS → Res PV) (b : Env → OS → SR) : Nat → Env → OS → SR
  | 0, _, _ => .bad
  | n + 1, env, os => (c env os).toSR env fun v os1 => (match v with
    | .iv (.bl true) => (match b env os1 with
      | .nx env' os' => whlGo c b n env' os'
      | .ct env' os' => whlGo c b n env' os'
      | .bk env' os' => .nx env' os'
      | r => r)
    | .iv (.bl false) => .nx env os1
    | _ => .bad)
def setAll : List Nat → List PV → Env → Option Env
  | [], [], env => some env
  | i :: is, v :: vs, env => if i < env.length then setAll is vs (env.set i (some v)) else none
  | _, _, _ => none
def WF : Nat := 1000000
def augIV (op : Operator) (x y : IV) : Option IV := match op, x, y with
  | .Add, .int a, .int b => some (.int (a + b))
  | .Sub, .int a, .int b => some (.int (a - b))
  | _, _, _ => none

mutual
def denS (fs : FS) : S → Env → OS → SR
  | .ex e, env, os => (denE fs e env os).toSR env fun _ os1 => .nx env os1
  | .asg t e, env, os => (denE fs e env os).toSR env fun v os1 => (match asgP t v env with
    | some env' => .nx env' os1
    | none => .bad)
  | .par is es, env, os => (denPs fs es env os).toSR env fun vs os1 => (match setAll is vs env with
    | some env' => .nx env' os1
    | none => .bad)
  | .sub o i e, env, os => (denE fs e env os).toSR env fun v os1 => (match v with
    | .iv z => (denE fs o env os1).toSR env fun x os2 => (denE fs i env os2).toSR env fun y os3 => (match setF x y z os3 with
      | some os4 => .nx env os4
      | none => .bad)
    | .ref _ => .bad)
  | .aug i op e, env, os => (match env[i]? with
    | some (some (.iv x)) => (denE fs e env os).toSR env fun v os1 => (match v with
      | .iv y => (match augIV op x y with
        | some z => .nx (env.set i (some (.iv z))) os1
        | none => .bad)
      | _ => .bad)
    | _ => .bad)
  | .ife c a b, env, os => (denE fs c env os).toSR env fun v os1 => (match v with
    | .iv (.bl true) => denSs fs a env os1
    | .iv (.bl false) => denSs fs b env os1
    | _ => .bad)
  | .for t it b, env, os => (denI fs it env os).toSR env fun xs os1 => forGo (fun x env os => match asgT t x env with
    | some env' => denSs fs b env' os
    | none => .bad) xs env os1
  | .whl c b, env, os => whlGo (denE fs c) (denSs fs b) WF env os
  | .ret e, env, os => (denE fs e env os).toSR env fun v os1 => .rt v os1
  | .retN, _, os => .rt (.iv .non) os
  | .brk, env, os => .bk env os
  | .cnt, env, os => .ct env os
  | .pas, env, os => .nx env os
  | .frz i, env, os => (match env[i]? with
    | some (some (.ref k)) => (match os[k]? with
      | some (.lst xs) => .nx (env.set i (some (.iv (.lst xs)))) (os.set k .dead)
      | _ => .bad)
    | _ => .bad)
  | .never, _, _ => .bad
def denSs (fs : FS) : List S → Env → OS → SR
  | [], env, os => .nx env os
  | s :: ss, env, os => (denS fs s env os).then fun env' os' => denSs fs ss env' os'
end

/-- a def: its names, its body -/
def runDef (fs : FS) (n : Nat) (body : List S) (args : List PV) (os : OS) : Res Out :=
  match denSs fs body (args.map some ++ List.replicate (n - args.length) none) os with
  | .nx _ os' => .ok (.iv .non) (os'.take os.length)
  | .rt (.iv x) os' => .ok (.iv x) (os'.take os.length)
  | .rt (.ref k) os' => if k < os.length then .bad else (match os'[k]? with
    | some o => if notDead o then .ok (.ob o) (os'.take os.length) else .bad
    | none => .bad)
  | .exc c ns vs _ os' => .exc c ns vs (os'.take os.length)
  | _ => .bad
end DP

set_option Elab.async false
set_option linter.all false
set_option maxRecDepth 100000
/-! Ev1: how trees and the store stand in the abstract heap. -/
namespace DP
open PySem L2

/-- the module: its names, its written objects -/
structure G where
  m : Str → Option Value
  K : PySem.W.Frag
abbrev _root_.L2.Cx.g (X : Cx) : G := ⟨X.mg, X.K⟩
/-- a list of ints among the module's own objects -/
def KScr (K : PySem.W.Frag) (a : Addr) (ns : List Int) : Prop := ∃ (o : Obj) (its : Array Value) (n : Nat), K.lookup a = some o ∧ o.cls = .type "list" ∧ o.dict = none ∧ o.data = .seq its n ∧ its.size ≤ sizeLine ∧ Vals (ns.map V.int) its.toList
mutual
inductive Rep (mg : G) (L : Addr → Prop) (H : Hp) : IV → V → Prop
  | non : Rep mg L H .non .non
  | bl (b : Bool) : Rep mg L H (.bl b) (.bl b)
  | int (i : Int) : Rep mg L H (.int i) (.int i)
  | str (x : Str) : Rep mg L H (.str x) (.str x)
  | ty (n : String) : Rep mg L H (.ty n) (.ty n)
  | tup {a : Addr} {xs : List IV} {vs : List V} : H a = some (.tup vs) → ¬ L a → Reps mg L H xs vs → Rep mg L H (.tup xs) (.ref a)
  | lst {a : Addr} {xs : List IV} {vs : List V} : H a = some (.lst vs) → ¬ L a → Reps mg L H xs vs → Rep mg L H (.lst xs) (.ref a)
  | scr {a : Addr} {ns : List Int} {o : Obj} : H a = some (.frz o (.lst (ns.map V.int))) → ¬ L a → Rep mg L H (.scr ns) (.ref a)
  | scrK {a : Addr} {ns : List Int} : KScr mg.K a ns → Rep mg L H (.scr ns) (.ref a)
  | dic {a : Addr} {ks : List Key} {ys : List IV} {kvs : List (Key × V)} : H a = some (.dK kvs) → ¬ L a → kvs.map (·.1) = ks → Reps mg L H ys (kvs.map (·.2)) → Rep mg L H (.dic ks ys) (.ref a)
  | glo {x : Str} {a : Addr} : mg.m x = some (.ref a) → Rep mg L H (.glo x) (.ref a)
inductive Reps (mg : G) (L : Addr → Prop) (H : Hp) : List IV → List V → Prop
  | nil : Reps mg L H [] []
  | cons {x : IV} {xs : List IV} {v : V} {vs : List V} : Rep mg L H x v → Reps mg L H xs vs → Reps mg L H (x :: xs) (v :: vs)
end

/-- the addresses of the mutable objects: the object's own, and those that belong to it; what is out of bounds -/
structure Rho where
  l : List (Addr × List Addr)
  F : Addr → Prop
def Rho.push (ρ : Rho) (p : Addr × List Addr) : Rho := ⟨ρ.l ++ [p], ρ.F⟩
def Own (ρ : Rho) (os : OS) (b : Addr) : Prop := ∃ (k : Nat) (p : Addr × List Addr) (o : OB), ρ.l[k]? = some p ∧ os[k]? = some o ∧ o ≠ .dead ∧ (b = p.1 ∨ b ∈ p.2)
def Live (ρ : Rho) (os : OS) (b : Addr) : Prop := Own ρ os b ∨ ρ.F b

def kCells : Key := Sum.inr "cells"
def kGreat : Key := Sum.inr "great"
def kSpot : Key := Sum.inr "spot"
def ObR (mg : G) (L : Addr → Prop) (H : Hp) (p : Addr × List Addr) : OB → Prop
  | .lst xs => p.2 = [] ∧ ∃ vs, H p.1 = some (.lst vs) ∧ Reps mg L H xs vs
  | .dK ks ys => p.2 = [] ∧ ∃ kvs : List (Key × V), H p.1 = some (.dK kvs) ∧ kvs.map (·.1) = ks ∧ Reps mg L H ys (kvs.map (·.2))
  | .drw cells great spot => ∃ c g, p.2 = [c, g] ∧ H p.1 = some (.dK [(kCells, .ref c), (kGreat, .ref g), (kSpot, .int spot)]) ∧ H c = some (.lst (cells.map V.int)) ∧ H g = some (.lst (great.map V.int))
  | .dead => True

structure StOk (mg : G) (ρ : Rho) (H : Hp) (os : OS) : Prop where
  len : ρ.l.length = os.length
  nd : ∀ (k : Nat) (p : Addr × List Addr), ρ.l[k]? = some p → (p.1 :: p.2).Nodup
  dis : ∀ (j k : Nat) (p q : Addr × List Addr), j ≠ k → ρ.l[j]? = some p → ρ.l[k]? = some q → ∀ b, b ∈ p.1 :: p.2 → b ∉ q.1 :: q.2
  there : ∀ (k : Nat) (p : Addr × List Addr), ρ.l[k]? = some p → ∀ b ∈ p.1 :: p.2, H b ≠ none
  obj : ∀ (k : Nat) (p : Addr × List Addr) (o : OB), ρ.l[k]? = some p → os[k]? = some o → ObR mg (Live ρ os) H p o
  out : ∀ (k : Nat) (p : Addr × List Addr), ρ.l[k]? = some p → ∀ b ∈ p.1 :: p.2, ¬ ρ.F b
  fth : ∀ b, ρ.F b → H b ≠ none

structure Ext (ρ : Rho) (os : OS) (H : Hp) (ρ' : Rho) (os' : OS) (H' : Hp) : Prop where
  pre : ∃ t, ρ'.l = ρ.l ++ t
  mono : ∀ b, ρ.F b → ρ'.F b
  fnew : ∀ b, ρ'.F b → Live ρ os b ∨ H b = none
  hold : ∀ b o, H b = some o → ¬ Own ρ os b → H' b = some o
  own : ∀ b, Own ρ' os' b → Own ρ os b ∨ H b = none

section
variable {mg : G} {ρ ρ' ρ'' : Rho} {os os' os'' : OS} {H H' H'' : Hp} {L L' : Addr → Prop}
theorem Ext.keep (e : Ext ρ os H ρ' os' H') : ∀ b o, H b = some o → ¬ Live ρ os b → H' b = some o := fun b o h n => e.hold b o h fun q => n (.inl q)
theorem Ext.live (e : Ext ρ os H ρ' os' H') : ∀ b, Live ρ' os' b → Live ρ os b ∨ H b = none := fun b l => by
  rcases l with q | q
  · rcases e.own b q with w | w
    · exact .inl (.inl w)
    · exact .inr w
  · exact e.fnew b q
theorem Ext.refl : Ext ρ os H ρ os H := ⟨⟨[], by simp⟩, fun _ h => h, fun _ h => .inl (.inr h), fun _ _ h _ => h, fun _ h => .inl h⟩
theorem Ext.trans (a : Ext ρ os H ρ' os' H') (b : Ext ρ' os' H' ρ'' os'' H'') : Ext ρ os H ρ'' os'' H'' := by
  refine ⟨?_, fun c h => b.mono c (a.mono c h), fun c h => ?_, fun c o h n => ?_, fun c h => ?_⟩
  rotate_left
  · rcases b.fnew c h with q | q
    · exact a.live c q
    · by_cases l : Own ρ os c
      · exact .inl (.inl l)
      · refine .inr ?_
        cases e : H c with
        | none => rfl
        | some o => rw [a.hold c o e l] at q; cases q
  rotate_left 2
  · obtain ⟨t, e⟩ := a.pre
    obtain ⟨u, e'⟩ := b.pre
    exact ⟨t ++ u, by rw [e', e, List.append_assoc]⟩
  · refine b.hold c o (a.hold c o h n) fun l => ?_
    rcases a.own c l with q | q
    · exact n q
    · rw [h] at q; cases q
  · rcases b.own c h with q | q
    · exact a.own c q
    · by_cases l : Own ρ os c
      · exact .inl l
      · refine .inr ?_
        cases e : H c with
        | none => rfl
        | some o => rw [a.hold c o e l] at q; cases q
theorem Ext.at (e : Ext ρ os H ρ' os' H') {k : Nat} {p : Addr × List Addr} (h : ρ.l[k]? = some p) : ρ'.l[k]? = some p := by
  obtain ⟨t, q⟩ := e.pre
  have hk : k < ρ.l.length := (List.getElem?_eq_some_iff.mp h).1
  rw [q, List.getElem?_append_left hk]
  exact h

/-- what a tree leans on stays -/
structure Kp (L : Addr → Prop) (H : Hp) (L' : Addr → Prop) (H' : Hp) : Prop where
  keep : ∀ b o, H b = some o → ¬ L b → H' b = some o
  live : ∀ b, L' b → L b ∨ H b = none
theorem Ext.kp (e : Ext ρ os H ρ' os' H') : Kp (Live ρ os) H (Live ρ' os') H' := ⟨e.keep, e.live⟩
theorem Kp.not (e : Kp L H L' H') {a : Addr} {o : HO} (h : H a = some o) (n : ¬ L a) : ¬ L' a := fun l => by
  rcases e.live a l with q | q
  · exact n q
  · rw [h] at q; cases q
theorem Rd.some {H : Hp} {a : Addr} {u : HO} (r : Rd H a u) : ∃ o, H a = some o := by
  rcases r with r | ⟨o, r⟩
  · exact ⟨_, r⟩
  · exact ⟨_, r⟩
theorem Kp.rd (e : Kp L H L' H') {a : Addr} {u : HO} (h : Rd H a u) (n : ¬ L a) : Rd H' a u := by
  rcases h with r | ⟨o, r⟩
  · exact .inl (e.keep _ _ r n)
  · exact .inr ⟨o, e.keep _ _ r n⟩
mutual
theorem Rep.kp (e : Kp L H L' H') : ∀ {x : IV} {v : V}, Rep mg L H x v → Rep mg L' H' x v
  | _, _, .non => .non
  | _, _, .bl b => .bl b
  | _, _, .int i => .int i
  | _, _, .str x => .str x
  | _, _, .ty n => .ty n
  | _, _, .tup h n r => .tup (e.keep _ _ h n) (e.not h n) (Reps.kp e r)
  | _, _, .lst h n r => .lst (e.keep _ _ h n) (e.not h n) (Reps.kp e r)
  | _, _, .scr h n => .scr (e.keep _ _ h n) (e.not h n)
  | _, _, .scrK h => .scrK h
  | _, _, .dic h n k r => .dic (e.keep _ _ h n) (e.not h n) k (Reps.kp e r)
  | _, _, .glo h => .glo h
theorem Reps.kp (e : Kp L H L' H') : ∀ {xs : List IV} {vs : List V}, Reps mg L H xs vs → Reps mg L' H' xs vs
  | _, _, .nil => .nil
  | _, _, .cons r t => .cons (Rep.kp e r) (Reps.kp e t)
end
theorem Rep.ext {x : IV} {v : V} (r : Rep mg (Live ρ os) H x v) (e : Ext ρ os H ρ' os' H') : Rep mg (Live ρ' os') H' x v := r.kp e.kp
theorem Reps.ext {x : List IV} {v : List V} (r : Reps mg (Live ρ os) H x v) (e : Ext ρ os H ρ' os' H') : Reps mg (Live ρ' os') H' x v := r.kp e.kp

theorem Reps.length : ∀ {xs : List IV} {vs : List V}, Reps mg L H xs vs → xs.length = vs.length
  | _, _, .nil => rfl
  | _, _, .cons _ t => by simp [Reps.length t]
theorem Reps.get : ∀ {xs : List IV} {vs : List V} {i : Nat} {x : IV}, Reps mg L H xs vs → xs[i]? = some x → ∃ v, vs[i]? = some v ∧ Rep mg L H x v
  | _, _, _, _, .nil, e => by simp at e
  | _, _, 0, _, .cons r _, e => by simp at e; subst e; exact ⟨_, rfl, r⟩
  | _, _, i + 1, x, .cons _ t, e => by
    obtain ⟨u, h1, h2⟩ := Reps.get (i := i) (x := x) t (by simpa using e)
    exact ⟨u, by simpa using h1, h2⟩
theorem Reps.got : ∀ {xs : List IV} {vs : List V} {i : Nat} {v : V}, Reps mg L H xs vs → vs[i]? = some v → ∃ x, xs[i]? = some x ∧ Rep mg L H x v
  | _, _, _, _, .nil, e => by simp at e
  | _, _, 0, _, .cons r _, e => by simp at e; subst e; exact ⟨_, rfl, r⟩
  | _, _, i + 1, x, .cons _ t, e => by
    obtain ⟨u, h1, h2⟩ := Reps.got (i := i) t (by simpa using e)
    exact ⟨u, by simpa using h1, h2⟩
theorem Reps.append : ∀ {xs ys : List IV} {us ws : List V}, Reps mg L H xs us → Reps mg L H ys ws → Reps mg L H (xs ++ ys) (us ++ ws)
  | _, _, _, _, .nil, s => s
  | _, _, _, _, .cons r t, s => .cons r (Reps.append t s)
theorem Reps.take : ∀ {xs : List IV} {us : List V} (n : Nat), Reps mg L H xs us → Reps mg L H (xs.take n) (us.take n)
  | _, _, 0, _ => by simpa using Reps.nil
  | _, _, _ + 1, .nil => .nil
  | _, _, n + 1, .cons r t => .cons r (Reps.take n t)
theorem Reps.drop : ∀ {xs : List IV} {us : List V} (n : Nat), Reps mg L H xs us → Reps mg L H (xs.drop n) (us.drop n)
  | _, _, 0, r => r
  | _, _, _ + 1, .nil => .nil
  | _, _, n + 1, .cons _ t => Reps.drop n t
theorem Reps.set {x : IV} {u : V} (r : Rep mg L H x u) : ∀ {xs : List IV} {us : List V} (i : Nat), Reps mg L H xs us → Reps mg L H (xs.set i x) (us.set i u)
  | _, _, _, .nil => .nil
  | _, _, 0, .cons _ t => .cons r t
  | _, _, i + 1, .cons q t => .cons q (Reps.set r i t)
theorem Reps.eraseIdx : ∀ {xs : List IV} {us : List V} (i : Nat), Reps mg L H xs us → Reps mg L H (xs.eraseIdx i) (us.eraseIdx i)
  | _, _, _, .nil => .nil
  | _, _, 0, .cons _ t => t
  | _, _, i + 1, .cons q t => .cons q (Reps.eraseIdx i t)
theorem Reps.reverse : ∀ {xs : List IV} {us : List V}, Reps mg L H xs us → Reps mg L H xs.reverse us.reverse
  | _, _, .nil => .nil
  | _, _, .cons r t => by
    rw [List.reverse_cons, List.reverse_cons]
    exact (Reps.reverse t).append (.cons r .nil)
theorem Reps.dropLast {xs : List IV} {us : List V} (h : Reps mg L H xs us) : Reps mg L H xs.dropLast us.dropLast := by
  rw [List.dropLast_eq_take, List.dropLast_eq_take, h.length]
  exact h.take _

def RepP (mg : G) (ρ : Rho) (os : OS) (H : Hp) : PV → V → Prop
  | .iv x, v => Rep mg (Live ρ os) H x v
  | .ref k, v => ∃ p, ρ.l[k]? = some p ∧ v = .ref p.1
theorem RepP.ext {x : PV} {v : V} (r : RepP mg ρ os H x v) (e : Ext ρ os H ρ' os' H') : RepP mg ρ' os' H' x v := by
  cases x with
  | iv x => exact Rep.ext r e
  | ref k =>
    obtain ⟨p, h1, h2⟩ := r
    exact ⟨p, e.at h1, h2⟩

structure EnvOk (mg : G) (ρ : Rho) (os : OS) (H : Hp) (env : Env) (σ : St) : Prop where
  len : env.length = σ.length
  at_ : ∀ (i : Nat) (x : PV), env[i]? = some (some x) → ∃ v, σ[i]? = some (some v) ∧ RepP mg ρ os H x v
theorem EnvOk.ext {env : Env} {σ : St} (h : EnvOk mg ρ os H env σ) (e : Ext ρ os H ρ' os' H') : EnvOk mg ρ' os' H' env σ :=
  ⟨h.len, fun i x q => let ⟨v, a, b⟩ := h.at_ i x q; ⟨v, a, b.ext e⟩⟩
theorem EnvOk.set {env : Env} {σ : St} (h : EnvOk mg ρ os H env σ) {i : Nat} {x : PV} {v : V} (r : RepP mg ρ os H x v) : EnvOk mg ρ os H (env.set i (some x)) (σ.set i (some v)) := by
  refine ⟨by simp [h.len], fun j y q => ?_⟩
  by_cases e : i = j
  · subst e
    have hl : i < env.length := by
      have := (List.getElem?_eq_some_iff.mp q).1
      simpa using this
    rw [List.getElem?_set_self hl] at q
    cases q
    exact ⟨v, List.getElem?_set_self (by rw [← h.len]; exact hl), r⟩
  · rw [List.getElem?_set_ne e] at q
    obtain ⟨u, a, b⟩ := h.at_ j y q
    exact ⟨u, by rw [List.getElem?_set_ne e]; exact a, b⟩
theorem EnvOk.setNone {env : Env} {σ : St} (h : EnvOk mg ρ os H env σ) (i : Nat) : EnvOk mg ρ os H (env.set i none) (σ.set i none) := by
  refine ⟨by simp [h.len], fun j y q => ?_⟩
  by_cases e : i = j
  · subst e
    have hl : i < env.length := by
      have := (List.getElem?_eq_some_iff.mp q).1
      simpa using this
    rw [List.getElem?_set_self hl] at q
    cases q
  · rw [List.getElem?_set_ne e] at q
    obtain ⟨u, a, b⟩ := h.at_ j y q
    exact ⟨u, by rw [List.getElem?_set_ne e]; exact a, b⟩
theorem EnvOk.wipe {env : Env} {σ : St} (h : EnvOk mg ρ os H env σ) : ∀ vs : List Nat, EnvOk mg ρ os H (wipeE env vs) (wipe σ vs)
  | [] => h
  | v :: vs => (EnvOk.wipe h vs).setNone v

/-! ### a new object beside -/
theorem StOk.ne_fresh (s : StOk mg ρ H os) {p : Addr} (h : H p = none) : ∀ (k : Nat) (q : Addr × List Addr), ρ.l[k]? = some q → p ≠ q.1 ∧ p ∉ q.2 := fun k q e => by
  refine ⟨fun z => ?_, fun z => ?_⟩
  · exact s.there k q e q.1 List.mem_cons_self (z ▸ h)
  · exact s.there k q e p (List.mem_cons_of_mem _ z) h
theorem StOk.not_live (s : StOk mg ρ H os) {p : Addr} (h : H p = none) : ¬ Live ρ os p := fun l => by
  rcases l with ⟨k, q, o, e, _, _, z⟩ | l
  · obtain ⟨n1, n2⟩ := s.ne_fresh h k q e
    rcases z with z | z
    · exact n1 z
    · exact n2 z
  · exact s.fth p l h
theorem ext_fresh {p : Addr} {o : HO} (h : H p = none) : Ext ρ os H ρ os (upd H p o) :=
  ⟨⟨[], by simp⟩, fun _ h => h, fun _ h => .inl (.inr h), fun b u e _ => by rw [upd_ne (ne_of_none e h)]; exact e, fun _ l => .inl l⟩
/-- an object's description stays where what it leans on stays and its own addresses stay -/
theorem ObR.kp {p : Addr × List Addr} {o : OB} (e : Kp L H L' H') (own : ∀ b ∈ p.1 :: p.2, H' b = H b) (h : ObR mg L H p o) : ObR mg L' H' p o := by
  cases o with
  | lst xs =>
    obtain ⟨a, vs, q, r⟩ := h
    exact ⟨a, vs, by rw [own _ List.mem_cons_self]; exact q, r.kp e⟩
  | dK ks ys =>
    obtain ⟨a, kvs, q, k, r⟩ := h
    exact ⟨a, kvs, by rw [own _ List.mem_cons_self]; exact q, k, r.kp e⟩
  | drw cells great spot =>
    obtain ⟨c, g, a, q, q1, q2⟩ := h
    refine ⟨c, g, a, by rw [own _ List.mem_cons_self]; exact q, ?_, ?_⟩
    · rw [own c (by rw [a]; simp)]; exact q1
    · rw [own g (by rw [a]; simp)]; exact q2
  | dead => trivial
theorem StOk.fresh (s : StOk mg ρ H os) {p : Addr} {o : HO} (h : H p = none) : StOk mg ρ (upd H p o) os := by
  refine ⟨s.len, s.nd, s.dis, fun k q e b hb => ?_, fun k q u e e' => ?_, s.out, fun b hb => ?_⟩
  · by_cases z : b = p
    · rw [z, upd_same]; simp
    · rw [upd_ne z]; exact s.there k q e b hb
  rotate_left
  · by_cases z : b = p
    · rw [z, upd_same]; simp
    · rw [upd_ne z]; exact s.fth b hb
  · refine (s.obj k q u e e').kp (ext_fresh h).kp fun b hb => upd_ne fun z => ?_
    subst z
    exact s.there k q e b hb h
/-- a new object that joins the store -/
theorem own_push {p : Addr × List Addr} {o : OB} (hl : ρ.l.length = os.length) {b : Addr} (h : Own (ρ.push p) (os ++ [o]) b) : Own ρ os b ∨ b = p.1 ∨ b ∈ p.2 := by
  obtain ⟨k, q, u, e, e', n, z⟩ := h
  simp only [Rho.push] at e
  by_cases hk : k < ρ.l.length
  · rw [List.getElem?_append_left hk] at e
    rw [List.getElem?_append_left (by omega)] at e'
    exact .inl ⟨k, q, u, e, e', n, z⟩
  · rw [List.getElem?_append_right (by omega)] at e
    have : k - ρ.l.length = 0 := by
      have := (List.getElem?_eq_some_iff.mp e).1
      simp at this
      omega
    rw [this] at e
    simp at e
    subst e
    exact .inr z
theorem ext_push {p : Addr} {u : HO} {o : OB} (hl : ρ.l.length = os.length) (h : H p = none) : Ext ρ os H (ρ.push (p, [])) (os ++ [o]) (upd H p u) := by
  refine ⟨⟨_, rfl⟩, fun _ h => h, fun _ h => .inl (.inr h), fun b w e _ => by rw [upd_ne (ne_of_none e h)]; exact e, fun b l => ?_⟩
  rcases own_push hl l with q | q | q
  · exact .inl q
  · exact .inr (q ▸ h)
  · cases q
theorem get_push {α : Type} {l : List α} {a x : α} {k : Nat} (h : (l ++ [a])[k]? = some x) : (k < l.length ∧ l[k]? = some x) ∨ (k = l.length ∧ x = a) := by
  by_cases hk : k < l.length
  · rw [List.getElem?_append_left hk] at h
    exact .inl ⟨hk, h⟩
  · rw [List.getElem?_append_right (by omega)] at h
    have : k - l.length = 0 := by
      have := (List.getElem?_eq_some_iff.mp h).1
      simp at this
      omega
    rw [this] at h
    simp at h
    exact .inr ⟨by omega, h.symm⟩
theorem StOk.push (s : StOk mg ρ H os) {p : Addr} {u : HO} {o : OB} (h : H p = none) (hm : ObR mg (Live (ρ.push (p, [])) (os ++ [o])) (upd H p u) (p, []) o) : StOk mg (ρ.push (p, [])) (upd H p u) (os ++ [o]) := by
  have e := ext_push (o := o) (u := u) s.len h
  refine ⟨by simp [Rho.push, s.len], fun k q hq => ?_, fun j k q r n hq hr b hb => ?_, fun k q hq b hb => ?_, fun k q w hq hw => ?_, fun k q hq b hb => ?_, fun b hb => ?_⟩
  rotate_left 4
  · rcases get_push hq with ⟨_, z⟩ | ⟨_, z⟩
    · exact s.out k q z b hb
    · rw [z] at hb
      simp at hb
      subst hb
      exact fun c => s.fth b c h
  · by_cases z : b = p
    · rw [z, upd_same]; simp
    · rw [upd_ne z]; exact s.fth b hb
  · rcases get_push hq with ⟨_, z⟩ | ⟨_, z⟩
    · exact s.nd k q z
    · rw [z]; simp
  · rcases get_push hq with ⟨_, z⟩ | ⟨zj, z⟩ <;> rcases get_push hr with ⟨_, y⟩ | ⟨yk, y⟩
    · exact s.dis j k q r n z y b hb
    · rw [y]
      intro c
      simp at c
      subst c
      exact s.there j q z b hb h
    · rw [z] at hb
      simp at hb
      subst hb
      intro c
      exact s.there k r y b c h
    · omega
  · by_cases z : b = p
    · rw [z, upd_same]; simp
    · rw [upd_ne z]
      rcases get_push hq with ⟨_, y⟩ | ⟨_, y⟩
      · exact s.there k q y b hb
      · rw [y] at hb; simp at hb; exact absurd hb z
  · rcases get_push hq with ⟨hk, y⟩ | ⟨hk, y⟩
    · rw [List.getElem?_append_left (by rw [← s.len]; exact hk)] at hw
      refine (s.obj k q w y hw).kp e.kp fun b hb => upd_ne fun z => ?_
      subst z
      exact s.there k q y b hb h
    · rcases get_push hw with ⟨hk', y'⟩ | ⟨hk', y'⟩
      · rw [← s.len] at hk'; omega
      · rw [y, y']; exact hm
/-- an object of the store is changed -/
theorem own_set {k : Nat} {o o' : OB} (ho : os[k]? = some o) (n : o ≠ .dead) (n' : o' ≠ .dead) {b : Addr} : Own ρ (os.set k o') b ↔ Own ρ os b := by
  have hk : k < os.length := (List.getElem?_eq_some_iff.mp ho).1
  constructor
  · rintro ⟨j, q, u, e, e', m, z⟩
    by_cases hj : k = j
    · subst hj
      exact ⟨k, q, o, e, ho, n, z⟩
    · rw [List.getElem?_set_ne hj] at e'
      exact ⟨j, q, u, e, e', m, z⟩
  · rintro ⟨j, q, u, e, e', m, z⟩
    by_cases hj : k = j
    · subst hj
      exact ⟨k, q, o', e, List.getElem?_set_self hk, n', z⟩
    · exact ⟨j, q, u, e, by rw [List.getElem?_set_ne hj]; exact e', m, z⟩
theorem live_set_eq {k : Nat} {o o' : OB} (ho : os[k]? = some o) (n : o ≠ .dead) (n' : o' ≠ .dead) : Live ρ (os.set k o') = Live ρ os := funext fun _ => propext (or_congr (own_set ho n n') Iff.rfl)
theorem ext_write {k : Nat} {p : Addr × List Addr} {o o' : OB} (hp : ρ.l[k]? = some p) (ho : os[k]? = some o) (n : o ≠ .dead) (n' : o' ≠ .dead) (hH : ∀ b, b ∉ p.1 :: p.2 → H' b = H b) : Ext ρ os H ρ (os.set k o') H' := by
  refine ⟨⟨[], by simp⟩, fun _ h => h, fun _ h => .inl (.inr h), fun b w e l => ?_, fun b l => .inl ((own_set ho n n').mp l)⟩
  rw [hH b fun z => l ⟨k, p, o, hp, ho, n, by simpa using z⟩]
  exact e
theorem StOk.write (s : StOk mg ρ H os) {k : Nat} {p : Addr × List Addr} {o o' : OB} (hp : ρ.l[k]? = some p) (ho : os[k]? = some o) (n : o ≠ .dead) (n' : o' ≠ .dead) (hH : ∀ b, b ∉ p.1 :: p.2 → H' b = H b)
    (hT : ∀ b ∈ p.1 :: p.2, H' b ≠ none) (hn : ObR mg (Live ρ os) H' p o') : StOk mg ρ H' (os.set k o') := by
  have e := ext_write (H' := H') (o' := o') hp ho n n' hH
  have hk : k < os.length := (List.getElem?_eq_some_iff.mp ho).1
  refine ⟨by simp [s.len], s.nd, s.dis, fun j q hq b hb => ?_, fun j q u hq hu => ?_, s.out, fun b hb => ?_⟩
  · by_cases z : b ∈ p.1 :: p.2
    · exact hT b z
    · rw [hH b z]; exact s.there j q hq b hb
  rotate_left
  · by_cases z : b ∈ p.1 :: p.2
    · exact hT b z
    · rw [hH b z]; exact s.fth b hb
  · by_cases hj : k = j
    · subst hj
      rw [hp] at hq; cases hq
      rw [List.getElem?_set_self hk] at hu; cases hu
      rw [live_set_eq ho n n']
      exact hn
    · rw [List.getElem?_set_ne hj] at hu
      exact (s.obj j q u hq hu).kp e.kp fun b hb => hH b (s.dis j k q p (Ne.symm hj) hq hp b hb)
/-- an object leaves the store -/
theorem ext_kill {k : Nat} : Ext ρ os H ρ (os.set k .dead) H := by
  refine ⟨⟨[], by simp⟩, fun _ h => h, fun _ h => .inl (.inr h), fun _ _ e _ => e, fun b ⟨j, q, u, e, e', m, z⟩ => ?_⟩
  by_cases hj : k = j
  · subst hj
    by_cases hk : k < os.length
    · rw [List.getElem?_set_self hk] at e'
      cases e'
      exact absurd rfl m
    · rw [List.getElem?_eq_none (by simpa using hk)] at e'
      cases e'
  · rw [List.getElem?_set_ne hj] at e'
    exact .inl ⟨j, q, u, e, e', m, z⟩
theorem StOk.kill (s : StOk mg ρ H os) (k : Nat) : StOk mg ρ H (os.set k .dead) := by
  refine ⟨by simp [s.len], s.nd, s.dis, s.there, fun j q u hq hu => ?_, s.out, s.fth⟩
  by_cases hj : k = j
  · subst hj
    by_cases hk : k < os.length
    · rw [List.getElem?_set_self hk] at hu; cases hu
      trivial
    · rw [List.getElem?_eq_none (by simpa using hk)] at hu; cases hu
  · rw [List.getElem?_set_ne hj] at hu
    exact (s.obj j q u hq hu).kp ext_kill.kp fun _ _ => rfl
theorem StOk.not_live_dead (s : StOk mg ρ H os) {k : Nat} {p : Addr × List Addr} (hp : ρ.l[k]? = some p) {b : Addr} (hb : b ∈ p.1 :: p.2) : ¬ Live ρ (os.set k .dead) b := fun l => by
  rcases l with ⟨j, q, u, e, e', m, z⟩ | l
  · by_cases hj : k = j
    · subst hj
      by_cases hk : k < os.length
      · rw [List.getElem?_set_self hk] at e'; cases e'
        exact m rfl
      · rw [List.getElem?_eq_none (by simpa using hk)] at e'; cases e'
    · exact s.dis k j p q hj hp e b hb (by simpa using z)
  · exact s.out k p hp b hb l

/-! ### what a computation comes to -/
def Gives (mg : G) (W : WX) (σ : St) (ρ : Rho) (os : OS) (H : Hp) {α : Type} (r : Res α) (K : α → Rho → OS → Hp → Prop) : Prop := match r with
  | .ok a os' => ∀ ρ' H', Ext ρ os H ρ' os' H' → StOk mg ρ' H' os' → K a ρ' os' H'
  | .exc c ns vs os' => ∀ ρ' H' C dd (fs : List (Str × V)), Ext ρ os H ρ' os' H' → StOk mg ρ' H' os' → mg.m c = some (.ref C) → H' dd = some (.xd fs) → ¬ Live ρ' os' dd → fs.map (·.1) = ns → Reps mg (Live ρ' os') H' vs (fs.map (·.2)) → W (.ref C) (some dd) σ H'
  | .bad => False
variable {W : WX} {σ : St} {α β : Type}
theorem Gives.imp {r : Res α} {K K' : α → Rho → OS → Hp → Prop} (g : Gives mg W σ ρ os H r K) (h : ∀ a ρ' os' H', Ext ρ os H ρ' os' H' → StOk mg ρ' H' os' → K a ρ' os' H' → K' a ρ' os' H') : Gives mg W σ ρ os H r K' := by
  cases r with
  | ok a os' => exact fun ρ' H' e s => h a ρ' os' H' e s (g ρ' H' e s)
  | exc c ns vs os' => exact g
  | bad => exact g
theorem Gives.bind {r : Res α} {f : α → OS → Res β} {K : β → Rho → OS → Hp → Prop} (g : Gives mg W σ ρ os H (r.bind f) K) : Gives mg W σ ρ os H r (fun a ρ1 os1 H1 => Gives mg W σ ρ1 os1 H1 (f a os1) K) := by
  cases r with
  | ok a os1 =>
    intro ρ1 H1 e1 s1
    have g' : Gives mg W σ ρ os H (f a os1) K := g
    show Gives mg W σ ρ1 os1 H1 (f a os1) K
    cases q : f a os1 with
    | ok b os2 =>
      rw [q] at g'
      exact fun ρ2 H2 e2 s2 => g' ρ2 H2 (e1.trans e2) s2
    | exc c ns vs os2 =>
      rw [q] at g'
      exact fun ρ2 H2 C dd fs e2 s2 => g' ρ2 H2 C dd fs (e1.trans e2) s2
    | bad =>
      rw [q] at g'
      exact g'
  | exc c ns vs os' => exact g
  | bad => exact g
theorem Gives.lift {o : Option α} {K : α → Rho → OS → Hp → Prop} (g : Gives mg W σ ρ os H (Res.lift o os) K) : ∃ a, o = some a ∧ ∀ ρ' H', Ext ρ os H ρ' os H' → StOk mg ρ' H' os → K a ρ' os H' := by
  cases o with
  | none => exact False.elim g
  | some a => exact ⟨a, rfl, g⟩
/-- an expression's reading -/
def rdE (mg : G) (W : WX) (d : Env → OS → Res PV) : TE := fun σ H Q => ∃ ρ env os, StOk mg ρ H os ∧ EnvOk mg ρ os H env σ ∧
  Gives mg W σ ρ os H (d env os) (fun v ρ' os' H' => ∀ v', RepP mg ρ' os' H' v v' → Q v' H')
def rdT (mg : G) (W : WX) (d : Env → OS → Res PV) : TT := fun σ H Q => ∃ ρ env os, StOk mg ρ H os ∧ EnvOk mg ρ os H env σ ∧
  Gives mg W σ ρ os H (d env os) (fun v ρ' os' H' => ∃ b, v = .iv (.bl b) ∧ Q b H')
end
theorem PE.imp {X : Cx} {e : Expr} {t t' : TE} (h : PE X e t) (i : ∀ σ H Q, t' σ H Q → t σ H Q) : PE X e t' := ⟨fun pins s σ H Q I q => h.run pins s σ H Q I (i σ H Q q)⟩
theorem PT.imp {X : Cx} {e : Expr} {t t' : TT} (h : PT X e t) (i : ∀ σ H Q, t' σ H Q → t σ H Q) : PT X e t' := ⟨fun pins s σ H Q I q => h.run pins s σ H Q I (i σ H Q q)⟩
theorem PA.imp {X : Cx} {e : List Expr} {t t' : TA} (h : PA X e t) (i : ∀ σ H Q, t' σ H Q → t σ H Q) : PA X e t' := ⟨fun pos pins s σ H Q I q => h.run pos pins s σ H Q I (i σ H Q q)⟩
theorem PS.imp {X : Cx} {e : Stmt} {t t' : TS} (h : PS X e t) (i : ∀ D σ H, t' D σ H → t D σ H) : PS X e t' := ⟨fun pins s σ H D I q => h.run pins s σ H D I (i D σ H q)⟩
theorem PSs.imp {X : Cx} {e : List Stmt} {t t' : TS} (h : PSs X e t) (i : ∀ D σ H, t' D σ H → t D σ H) : PSs X e t' := ⟨fun pins s σ H D I q => h.run pins s σ H D I (i D σ H q)⟩
theorem PI.imp {X : Cx} {tg e : Expr} {t t' : TI} (h : PI X tg e t) (i : ∀ σ H R, t' σ H R → t σ H R) : PI X tg e t' := ⟨fun pins s σ H R I q => h.run pins s σ H R I (i σ H R q)⟩
theorem PG.imp {X : Cx} {e : Expr} {t t' : TG} (h : PG X e t) (i : ∀ v σ H Q, t' v σ H Q → t v σ H Q) : PG X e t' := ⟨fun pins s σ H v u Q I r q => h.run pins s σ H v u Q I r (i v σ H Q q)⟩
end DP

set_option Elab.async false
set_option linter.all false
set_option maxRecDepth 100000
set_option maxHeartbeats 1000000
/-! Ev2: operators, comparisons, places, built-in functions. -/
namespace DP
open PySem PySem.Spec L2

section
variable {mg : G} {ρ ρ' : Rho} {os os' : OS} {H H' : Hp} {L : Addr → Prop} {K : PySem.W.Frag}

theorem szOk_le {n : Nat} (h : szOk n = true) : n ≤ sizeLine := by
  rw [sizeLine_eq]
  exact Nat.le_of_ble_eq_true h

/-- a tree as it can be read now: its outermost object may be one of the store -/
def RepM (mg : G) (L : Addr → Prop) (H : Hp) : IV → V → Prop
  | .lst xs, v => ∃ a vs, v = .ref a ∧ H a = some (.lst vs) ∧ Reps mg L H xs vs
  | .dic ks ys, v => ∃ a kvs, v = .ref a ∧ H a = some (.dK kvs) ∧ kvs.map (·.1) = ks ∧ Reps mg L H ys (kvs.map (·.2))
  | x, v => Rep mg L H x v
theorem Rep.m {x : IV} {v : V} (r : Rep mg L H x v) : RepM mg L H x v := by
  cases r with
  | lst h n r => exact ⟨_, _, rfl, h, r⟩
  | dic h n k r => exact ⟨_, _, rfl, h, k, r⟩
  | non => exact .non
  | bl b => exact .bl b
  | int i => exact .int i
  | str x => exact .str x
  | ty n => exact .ty n
  | tup h n r => exact .tup h n r
  | glo h => exact .glo h
  | scr h n => exact .scr h n
  | scrK h => exact .scrK h
theorem rd_rep (s : StOk mg ρ H os) {x : PV} {v : V} {a : IV} (r : RepP mg ρ os H x v) (h : rd os x = some a) : RepM mg (Live ρ os) H a v := by
  cases x with
  | iv x =>
    have e : x = a := Option.some.inj h
    subst e
    exact Rep.m r
  | ref k =>
    obtain ⟨p, hp, rfl⟩ := r
    simp only [rd] at h
    cases e : os[k]? with
    | none =>
      rw [e] at h
      cases h
    | some o =>
      rw [e] at h
      have ob := s.obj k p o hp e
      cases o with
      | lst xs =>
        cases h
        obtain ⟨_, vs, q, r⟩ := ob
        exact ⟨_, vs, rfl, q, r⟩
      | dK ks ys =>
        cases h
        obtain ⟨_, kvs, q, k, r⟩ := ob
        exact ⟨_, kvs, rfl, q, k, r⟩
      | drw _ _ _ => cases h
      | dead => cases h

mutual
theorem rep_dp : ∀ (x : IV) (d : PyData) (v : V), Rep mg L H x v → toD x = some d → Dp K H v d
  | .non, _, _, r, e => by cases r; cases e; exact .non
  | .bl b, _, _, r, e => by cases r; cases e; exact .bl b
  | .int i, _, _, r, e => by cases r; cases e; exact .int i
  | .str x, _, _, r, e => by cases r; cases e; exact .str x
  | .tup xs, d, _, r, e => by
    cases r with
    | tup h n rs =>
      have e' : (toDs xs).map PyData.tuple = some d := by simpa only [toD] using e
      obtain ⟨ds, e1, rfl⟩ := Option.map_eq_some_iff.mp e'
      exact .tup (SqT.of h) (reps_dp xs ds _ rs e1)
  | .lst xs, d, _, r, e => by
    cases r with
    | lst h n rs =>
      have e' : (toDs xs).map PyData.list = some d := by simpa only [toD] using e
      obtain ⟨ds, e1, rfl⟩ := Option.map_eq_some_iff.mp e'
      exact .lst (SqL.of h) (reps_dp xs ds _ rs e1)
  | .ty _, _, _, _, e => by simp [toD] at e
  | .dic _ _, _, _, _, e => by simp [toD] at e
  | .exn _ _ _, _, _, _, e => by simp [toD] at e
  | .glo _, _, _, _, e => by simp [toD] at e
  | .scr _, _, _, _, e => by simp [toD] at e
theorem reps_dp : ∀ (xs : List IV) (ds : List PyData) (vs : List V), Reps mg L H xs vs → toDs xs = some ds → DpAll K H vs ds
  | [], _, _, r, e => by cases r; simp [toDs] at e; subst e; exact .nil
  | x :: xs, ds, _, r, e => by
    cases r with
    | cons r rs =>
      simp only [toDs] at e
      obtain ⟨d, e1, e2⟩ := Option.bind_eq_some_iff.mp e
      obtain ⟨dr, e3, rfl⟩ := Option.map_eq_some_iff.mp e2
      exact .cons (rep_dp x d _ r e1) (reps_dp xs dr _ rs e3)
end
theorem repM_dp {x : IV} {d : PyData} {v : V} (r : RepM mg L H x v) (e : toD x = some d) : Dp K H v d := by
  cases x with
  | lst xs =>
    obtain ⟨a, vs, rfl, h, rs⟩ := r
    have e' : (toDs xs).map PyData.list = some d := by simpa only [toD] using e
    obtain ⟨ds, e1, rfl⟩ := Option.map_eq_some_iff.mp e'
    exact .lst (SqL.of h) (reps_dp xs ds _ rs e1)
  | dic ks ys => simp [toD] at e
  | non => exact rep_dp _ d v r e
  | bl b => exact rep_dp _ d v r e
  | int i => exact rep_dp _ d v r e
  | str x => exact rep_dp _ d v r e
  | ty n => exact rep_dp _ d v r e
  | tup xs => exact rep_dp _ d v r e
  | glo x => exact rep_dp _ d v r e
  | scr ns => exact rep_dp _ d v r e
  | exn c ns vs => exact rep_dp _ d v r e

/-- two operands, then something of their values -/
theorem op2 {W : WX} {da db : Env → OS → Res PV} {f : PV → PV → OS → Res PV} {r : R2}
    (h : ∀ σ ρ os H x y x' y' Q, StOk mg ρ H os → RepP mg ρ os H x x' → RepP mg ρ os H y y' → Gives mg W σ ρ os H (f x y os) (fun v ρ' os' H' => ∀ v', RepP mg ρ' os' H' v v' → Q v' H') → r x' y' H Q) :
    ∀ σ H Q, rdE mg W (fun env os => (da env os).bind fun x os1 => (db env os1).bind fun y os2 => f x y os2) σ H Q → tOp r (rdE mg W da) (rdE mg W db) σ H Q := by
  rintro σ H Q ⟨ρ, env, os, hs, he, g⟩
  refine ⟨ρ, env, os, hs, he, g.bind.imp fun x ρ1 os1 H1 e1 s1 k x' rx => ?_⟩
  refine ⟨ρ1, env, os1, s1, he.ext e1, k.bind.imp fun y ρ2 os2 H2 e2 s2 k2 y' ry => ?_⟩
  exact h σ ρ2 os2 H2 x y x' y' Q s2 (rx.ext e2) ry k2

/-- the two ways in which a value comes: nothing new, one new object -/
theorem give0 {W : WX} {σ : St} {a : IV} {v : V} {Q : VK} (s : StOk mg ρ H os) (g : ∀ ρ' H', Ext ρ os H ρ' os H' → StOk mg ρ' H' os → ∀ v', RepP mg ρ' os H' (.iv a) v' → Q v' H') (r : Rep mg (Live ρ os) H a v) : Q v H :=
  g ρ H Ext.refl s v r
theorem give1 {W : WX} {σ : St} {a : IV} {Q : VK} {o : HO} (s : StOk mg ρ H os) (g : ∀ ρ' H', Ext ρ os H ρ' os H' → StOk mg ρ' H' os → ∀ v', RepP mg ρ' os H' (.iv a) v' → Q v' H')
    {p : Addr} (hp : H p = none) (r : Rep mg (Live ρ os) (upd H p o) a (.ref p)) : Q (.ref p) (upd H p o) :=
  g ρ (upd H p o) (ext_fresh hp) (s.fresh hp) (.ref p) r
theorem new_tup (s : StOk mg ρ H os) {xs : List IV} {vs : List V} {p : Addr} (hp : H p = none) (r : Reps mg (Live ρ os) H xs vs) : Rep mg (Live ρ os) (upd H p (.tup vs)) (.tup xs) (.ref p) :=
  .tup upd_same (s.not_live hp) (r.ext (ext_fresh hp))
theorem new_lst (s : StOk mg ρ H os) {xs : List IV} {vs : List V} {p : Addr} (hp : H p = none) (r : Reps mg (Live ρ os) H xs vs) : Rep mg (Live ρ os) (upd H p (.lst vs)) (.lst xs) (.ref p) :=
  .lst upd_same (s.not_live hp) (r.ext (ext_fresh hp))
end

section
variable {X : Cx} {W : WX} {a b : Expr} {da db : Env → OS → Res PV} {pos : Pos}

def binF (op : Operator) (x y : PV) (os : OS) : Res PV := .lift (((rd os x).bind fun x => (rd os y).bind fun y => binIV op x y).map .iv) os
theorem bin_cases {op : Operator} {mg : G} {W : WX} {σ : St} {ρ : Rho} {os : OS} {H : Hp} {x y : PV} {x' y' : V} {Q : VK} (s : StOk mg ρ H os) (rx : RepP mg ρ os H x x') (ry : RepP mg ρ os H y y')
    (g : Gives mg W σ ρ os H (binF op x y os) (fun v ρ' os' H' => ∀ v', RepP mg ρ' os' H' v v' → Q v' H')) :
    ∃ i j c, RepM mg (Live ρ os) H i x' ∧ RepM mg (Live ρ os) H j y' ∧ binIV op i j = some c ∧ ∀ ρ' H', Ext ρ os H ρ' os H' → StOk mg ρ' H' os → ∀ v', RepP mg ρ' os H' (.iv c) v' → Q v' H' := by
  obtain ⟨v, e, k⟩ := g.lift
  obtain ⟨c, e1, rfl⟩ := Option.map_eq_some_iff.mp e
  obtain ⟨i, e2, e3⟩ := Option.bind_eq_some_iff.mp e1
  obtain ⟨j, e4, e5⟩ := Option.bind_eq_some_iff.mp e3
  exact ⟨i, j, c, rd_rep s rx e2, rd_rep s ry e4, e5, k⟩
theorem op_addAll : OpR X (binaryOp .Add) (fun x y H Q => (∃ i j, x = .int i ∧ y = .int j ∧ Q (.int (i + j)) H) ∨ (∃ i j, x = .str i ∧ y = .str j ∧ i.length + j.length ≤ sizeLine ∧ Q (.str (i ++ j)) H) ∨ rCatA X.K x y H Q ∨ rCat x y H Q) :=
  OpR.or op_add (OpR.or op_add_str (OpR.or op_catA op_cat))
theorem sd_add (ha : PE X a (rdE X.g W da)) (hb : PE X b (rdE X.g W db)) : PE X (.BinOp a .Add b pos) (rdE X.g W (fun env os => (da env os).bind fun x os1 => (db env os1).bind fun y os2 => binF .Add x y os2)) := by
  refine PE.imp (pe_op op_addAll ha hb) (op2 fun σ ρ os H x y x' y' Q s rx ry g => ?_)
  obtain ⟨i, j, c, ri, rj, e, k⟩ := bin_cases s rx ry g
  simp only [binIV] at e
  split at e
  · cases e
    cases ri
    cases rj
    exact .inl ⟨_, _, rfl, rfl, k ρ H Ext.refl s _ (.int _)⟩
  · rename_i z
    split at e
    · rename_i hz
      cases e
      cases ri
      cases rj
      exact .inr (.inl ⟨_, _, rfl, rfl, szOk_le hz, k ρ H Ext.refl s _ (.str _)⟩)
    · cases e
  · split at e
    · rename_i hz
      cases e
      cases ri with
      | tup h1 n1 r1 =>
        cases rj with
        | tup h2 n2 r2 =>
          refine .inr (.inr (.inl ⟨_, _, _, _, rfl, rfl, SqT.of h1, SqT.of h2, by rw [← r1.length, ← r2.length]; exact szOk_le hz, fun e0 => ?_, fun _ e0 => ?_, fun _ _ p hp => ?_⟩))
          · subst e0
            cases r1
            exact k ρ H Ext.refl s _ (Rep.tup h2 n2 r2)
          · subst e0
            cases r2
            rw [List.append_nil] at k
            exact k ρ H Ext.refl s _ (Rep.tup h1 n1 r1)
          · exact k ρ _ (ext_fresh hp) (s.fresh hp) _ (new_tup s hp (r1.append r2))
    · cases e
  · split at e
    · rename_i hz
      cases e
      obtain ⟨a1, vs1, rfl, h1, r1⟩ := ri
      obtain ⟨a2, vs2, rfl, h2, r2⟩ := rj
      exact .inr (.inr (.inr ⟨_, _, _, _, rfl, rfl, h1, h2, by rw [← r1.length, ← r2.length]; exact szOk_le hz, fun p hp => k ρ _ (ext_fresh hp) (s.fresh hp) _ (new_lst s hp (r1.append r2))⟩))
    · cases e
  · cases e
theorem bit64_ok {i : Int} (h : bit64 i = true) : -(2 ^ 64) < i ∧ i < 2 ^ 64 := by
  simpa [bit64] using h
/-- ints alone -/
theorem sd_ints {op : Operator} {C : Int → Int → Prop} {f : Int → Int → Int} (ho : OpR X (binaryOp op) (rI C fun i j => .int (f i j)))
    (hb2 : ∀ x y c, binIV op x y = some c → ∃ i j, x = .int i ∧ y = .int j ∧ C i j ∧ c = .int (f i j)) (ha : PE X a (rdE X.g W da)) (hb : PE X b (rdE X.g W db)) :
    PE X (.BinOp a op b pos) (rdE X.g W (fun env os => (da env os).bind fun x os1 => (db env os1).bind fun y os2 => binF op x y os2)) := by
  refine PE.imp (pe_op ho ha hb) (op2 fun σ ρ os H x y x' y' Q s rx ry g => ?_)
  obtain ⟨i, j, c, ri, rj, e, k⟩ := bin_cases s rx ry g
  obtain ⟨m, n, rfl, rfl, hc, rfl⟩ := hb2 i j c e
  cases ri
  cases rj
  exact ⟨m, n, rfl, rfl, hc, k ρ H Ext.refl s _ (.int _)⟩
theorem op_sub' : OpR X (binaryOp .Sub) (rI (fun _ _ => True) fun i j => .int (i - j)) := fun pins s σ H x y v u Q I rx ry ⟨i, j, e1, e2, _, q⟩ => op_sub pins s σ H x y v u Q I rx ry ⟨i, j, e1, e2, q⟩
theorem Reps.times {mg : G} {L : Addr → Prop} {H : Hp} {xs : List IV} {vs : List V} (r : Reps mg L H xs vs) : ∀ n : Nat, Reps mg L H (List.replicate n xs).flatten (List.replicate n vs).flatten
  | 0 => .nil
  | n + 1 => by
    simp only [List.replicate_succ, List.flatten_cons]
    exact r.append (r.times n)
theorem op_mulAll : OpR X (binaryOp .Mult) (fun x y H Q => rI CMul (fun i j => .int (i * j)) x y H Q ∨ rRep x y H Q ∨ rRepT X.K x y H Q) := OpR.or op_mul (OpR.or op_rep op_repT)
theorem sd_mul (ha : PE X a (rdE X.g W da)) (hb : PE X b (rdE X.g W db)) : PE X (.BinOp a .Mult b pos) (rdE X.g W (fun env os => (da env os).bind fun x os1 => (db env os1).bind fun y os2 => binF .Mult x y os2)) := by
  refine PE.imp (pe_op op_mulAll ha hb) (op2 fun σ ρ os H x y x' y' Q s rx ry g => ?_)
  obtain ⟨i, j, c, ri, rj, e, k⟩ := bin_cases s rx ry g
  simp only [binIV] at e
  split at e
  · split at e
    · rename_i h
      cases e
      cases ri
      cases rj
      refine .inl ⟨_, _, rfl, rfl, ?_, k ρ H Ext.refl s _ (.int _)⟩
      rcases Bool.or_eq_true_iff.mp h with h | h
      · exact .inl (bit64_ok h)
      · exact .inr (bit64_ok h)
    · cases e
  · split at e
    · rename_i hz
      cases e
      simp only [Bool.and_eq_true, decide_eq_true_eq] at hz
      obtain ⟨⟨h1, h2⟩, h3⟩ := hz
      obtain ⟨a1, vs1, rfl, h4, r1⟩ := ri
      cases rj
      exact .inr (.inl ⟨_, _, _, rfl, rfl, h4, by omega, by omega, by rw [← r1.length]; exact szOk_le h3, fun p hp => k ρ _ (ext_fresh hp) (s.fresh hp) _ (new_lst s hp (r1.times _))⟩)
    · cases e
  · split at e
    · rename_i hz
      cases e
      simp only [Bool.and_eq_true, decide_eq_true_eq, Nat.ble_eq] at hz
      obtain ⟨⟨⟨h1, h2⟩, h3⟩, h4⟩ := hz
      cases ri with
      | tup h5 n1 r1 =>
        cases rj
        refine .inr (.inr ⟨_, _, _, rfl, rfl, SqT.of h5, ?_, h1, h2, by rw [← r1.length]; exact h3, fun p hp => k ρ _ (ext_fresh hp) (s.fresh hp) _ (new_tup s hp (r1.times _))⟩)
        intro e0
        have := r1.length
        rw [e0] at this
        simp at this
        simp [this] at h4
    · cases e
  · cases e
theorem sd_bin {op : Operator} (hop : op = .Add ∨ op = .Sub ∨ op = .Mult ∨ op = .FloorDiv ∨ op = .Mod ∨ op = .Pow) (ha : PE X a (rdE X.g W da)) (hb : PE X b (rdE X.g W db)) :
    PE X (.BinOp a op b pos) (rdE X.g W (fun env os => (da env os).bind fun x os1 => (db env os1).bind fun y os2 => binF op x y os2)) := by
  rcases hop with rfl | rfl | rfl | rfl | rfl | rfl
  · exact sd_add ha hb
  · refine sd_ints op_sub' (fun x y c e => ?_) ha hb
    simp only [binIV] at e
    split at e
    · cases e; exact ⟨_, _, rfl, rfl, trivial, rfl⟩
    · cases e
  · exact sd_mul ha hb
  · refine sd_ints op_fdiv (fun x y c e => ?_) ha hb
    simp only [binIV] at e
    split at e
    · split at e
      · rename_i h
        cases e
        exact ⟨_, _, rfl, rfl, by simpa [CDiv] using h, rfl⟩
      · cases e
    · cases e
  · refine sd_ints op_mod (fun x y c e => ?_) ha hb
    simp only [binIV] at e
    split at e
    · split at e
      · rename_i h
        cases e
        exact ⟨_, _, rfl, rfl, by simpa using h, rfl⟩
      · cases e
    · cases e
  · refine sd_ints op_pow (fun x y c e => ?_) ha hb
    simp only [binIV] at e
    split at e
    · split at e
      · rename_i h
        cases e
        simp only [Bool.and_eq_true, decide_eq_true_eq] at h
        obtain ⟨⟨h1, h2⟩, h3⟩ := h
        have h4 := bit64_ok h3
        exact ⟨_, _, rfl, rfl, ⟨h1, by omega, by omega⟩, rfl⟩
      · cases e
    · cases e

/-! ### comparisons -/
theorem dp_reads2 {X : Cx} {pins : List (Addr × Obj)} {σ : L2.St} {H : Hp} {s : Shared} {x y : V} {v u : Value} {d e : PyData} (I : Inv X pins σ H s) (hd : Dp X.K H x d) (he : Dp X.K H y e) (rx : RelV x v) (ry : RelV y u) : (∃ as, Reads s.heap v d as) ∧ ∃ bs, Reads s.heap u e bs :=
  ⟨Dp.reads I d x v hd rx, Dp.reads I e y u he ry⟩
def Ordd (K : PySem.W.Frag) (f : PyData → PyData → Bool) : R2 := fun x y H Q => ∃ d e, Dp K H x d ∧ Dp K H y e ∧ SeqAt.shaped d = true ∧ SeqAt.shaped e = true ∧ PySem.W.alike d e = true ∧ d ≠ .none ∧ Q (.bl (f d e)) H
theorem room64 {X : Cx} {d e : PyData} (hu : X.A.units + 64 < cLine) (h : SeqAt.shaped d = true) : X.A.units + min d.depth e.depth < cLine := SeqAt.room_of_shaped h hu
theorem op_ltD (hu : X.A.units + 64 < cLine) : OpR X (compareOp .Lt) (Ordd X.K fun d e => PySem.W.dataLt d e) := by
  rintro pins s σ H x y v u Q I rx ry ⟨d, e, hd, he, sd, se, al, nn, q⟩
  obtain ⟨⟨as, r1⟩, bs, r2⟩ := dp_reads2 I hd he rx ry
  exact PySem.W.lt_data r1 r2 al nn (room64 hu sd) ⟨.bl _, H, I, rfl, q⟩
theorem op_gtD (hu : X.A.units + 64 < cLine) : OpR X (compareOp .Gt) (Ordd X.K fun d e => PySem.W.dataLt e d) := by
  rintro pins s σ H x y v u Q I rx ry ⟨d, e, hd, he, sd, se, al, nn, q⟩
  obtain ⟨⟨as, r1⟩, bs, r2⟩ := dp_reads2 I hd he rx ry
  exact PySem.W.gt_data r1 r2 al nn (room64 hu sd) ⟨.bl _, H, I, rfl, q⟩
theorem op_leD (hu : X.A.units + 64 < cLine) : OpR X (compareOp .LtE) (Ordd X.K fun d e => !PySem.W.dataLt e d) := by
  rintro pins s σ H x y v u Q I rx ry ⟨d, e, hd, he, sd, se, al, nn, q⟩
  obtain ⟨⟨as, r1⟩, bs, r2⟩ := dp_reads2 I hd he rx ry
  exact PySem.W.le_data r1 r2 al nn (room64 hu sd) ⟨.bl _, H, I, rfl, q⟩
theorem op_geD (hu : X.A.units + 64 < cLine) : OpR X (compareOp .GtE) (Ordd X.K fun d e => !PySem.W.dataLt d e) := by
  rintro pins s σ H x y v u Q I rx ry ⟨d, e, hd, he, sd, se, al, nn, q⟩
  obtain ⟨⟨as, r1⟩, bs, r2⟩ := dp_reads2 I hd he rx ry
  exact PySem.W.ge_data r1 r2 al nn (room64 hu sd) ⟨.bl _, H, I, rfl, q⟩
theorem room65 {X : Cx} {d : PyData} {n : Nat} (hu : X.A.units + 65 < cLine) (h : SeqAt.shaped d = true) : X.A.units + 1 + min n d.depth < cLine := by
  have := SeqAt.depth_of_shaped h
  have h2 : min n d.depth ≤ d.depth := Nat.min_le_right _ _
  omega
def rInT (K : PySem.W.Frag) (neg : Bool) : R2 := fun x y H Q => ∃ d ds, Dp K H x d ∧ Dp K H y (.tuple ds) ∧ SeqAt.shaped d = true ∧ SeqAt.shaped (.tuple ds) = true ∧ Q (.bl (neg ^^ ds.any fun z => PyData.eqv z d)) H
def rInL (K : PySem.W.Frag) (neg : Bool) : R2 := fun x y H Q => ∃ d ds, Dp K H x d ∧ Dp K H y (.list ds) ∧ SeqAt.shaped d = true ∧ SeqAt.shaped (.list ds) = true ∧ Q (.bl (neg ^^ ds.any fun z => PyData.eqv z d)) H
theorem canAll_tuple {ds : List PyData} (h : SeqAt.shaped (.tuple ds) = true) : PyData.canLayAll0 ds = true := by
  have := SeqAt.canLay_of_shaped h
  simpa only [PyData.canLay0] using this
theorem canAll_list {ds : List PyData} (h : SeqAt.shaped (.list ds) = true) : PyData.canLayAll0 ds = true := by
  have := SeqAt.canLay_of_shaped h
  simpa only [PyData.canLay0] using this
theorem op_inT (hu : X.A.units + 65 < cLine) : OpR X (compareOp .In) (rInT X.K false) := by
  rintro pins s σ H x y v u Q I rx ry ⟨d, ds, hd, he, sd, se, q⟩
  obtain ⟨as, r1⟩ := Dp.reads I d x v hd rx
  obtain ⟨bs, r2⟩ := Dp.reads I _ y u he ry
  exact SeqAt.in_tuple_reads r2 r1 (canAll_tuple se) (SeqAt.canLay_of_shaped sd) (room65 hu sd) ⟨.bl _, H, I, rfl, by simpa using q⟩
theorem op_ninT (hu : X.A.units + 65 < cLine) : OpR X (compareOp .NotIn) (rInT X.K true) := by
  rintro pins s σ H x y v u Q I rx ry ⟨d, ds, hd, he, sd, se, q⟩
  obtain ⟨as, r1⟩ := Dp.reads I d x v hd rx
  obtain ⟨bs, r2⟩ := Dp.reads I _ y u he ry
  exact SeqAt.notIn_tuple_reads r2 r1 (canAll_tuple se) (SeqAt.canLay_of_shaped sd) (room65 hu sd) ⟨.bl _, H, I, rfl, by simpa using q⟩
theorem op_inLs (hu : X.A.units + 65 < cLine) : OpR X (compareOp .In) (rInL X.K false) := by
  rintro pins s σ H x y v u Q I rx ry ⟨d, ds, hd, he, sd, se, q⟩
  obtain ⟨as, r1⟩ := Dp.reads I d x v hd rx
  obtain ⟨bs, r2⟩ := Dp.reads I _ y u he ry
  exact SeqAt.in_list_reads r2 r1 (canAll_list se) (SeqAt.canLay_of_shaped sd) (room65 hu sd) ⟨.bl _, H, I, rfl, by simpa using q⟩
theorem op_ninLs (hu : X.A.units + 65 < cLine) : OpR X (compareOp .NotIn) (rInL X.K true) := by
  rintro pins s σ H x y v u Q I rx ry ⟨d, ds, hd, he, sd, se, q⟩
  obtain ⟨as, r1⟩ := Dp.reads I d x v hd rx
  obtain ⟨bs, r2⟩ := Dp.reads I _ y u he ry
  exact SeqAt.notIn_list_reads r2 r1 (canAll_list se) (SeqAt.canLay_of_shaped sd) (room65 hu sd) ⟨.bl _, H, I, rfl, by simpa using q⟩

def rC (mg : G) (op : CmpOp) : R2 := fun x y H Q => ∃ ρ os px py b, StOk mg ρ H os ∧ RepP mg ρ os H px x ∧ RepP mg ρ os H py y ∧ cmpPV os op px py = some b ∧ Q (.bl b) H
theorem cmp_read {mg : G} {ρ : Rho} {os : OS} {H : Hp} {x y : PV} {x' y' : V} {f : IV → IV → Option Bool} {b : Bool} (s : StOk mg ρ H os) (rx : RepP mg ρ os H x x') (ry : RepP mg ρ os H y y')
    (h : ((rd os x).bind fun a => (rd os y).bind fun b => f a b) = some b) : ∃ i j, RepM mg (Live ρ os) H i x' ∧ RepM mg (Live ρ os) H j y' ∧ f i j = some b := by
  obtain ⟨i, e2, e3⟩ := Option.bind_eq_some_iff.mp h
  obtain ⟨j, e4, e5⟩ := Option.bind_eq_some_iff.mp e3
  exact ⟨i, j, rd_rep s rx e2, rd_rep s ry e4, e5⟩
theorem isStr_eq {i : IV} {x : Str} (h : isStr i = some x) : i = .str x := by
  unfold isStr at h
  split at h
  · cases h; rfl
  · cases h
theorem eqIV_data {i j : IV} {b : Bool} (h : eqIV i j = some b) : (∃ x y, i = .str x ∧ j = .str y ∧ b = decide (x = y)) ∨ ∃ d e, toD i = some d ∧ toD j = some e ∧ SeqAt.shaped d = true ∧ SeqAt.shaped e = true ∧ b = PyData.eqv d e := by
  unfold eqIV at h
  split at h
  · rename_i x y h1 h2
    cases h
    exact .inl ⟨x, y, isStr_eq h1, isStr_eq h2, rfl⟩
  · obtain ⟨d, h1, h2⟩ := Option.bind_eq_some_iff.mp h
    obtain ⟨e, h3, h4⟩ := Option.bind_eq_some_iff.mp h2
    split at h4
    · rename_i hs
      cases h4
      obtain ⟨s1, s2⟩ := Bool.and_eq_true_iff.mp hs
      exact .inr ⟨d, e, h1, h3, s1, s2, rfl⟩
    · cases h4
theorem isBlP_rep {mg : G} {ρ : Rho} {os : OS} {H : Hp} {x : PV} {v : V} {b : Bool} (h : isBlP x = some b) (r : RepP mg ρ os H x v) : v = .bl b := by
  unfold isBlP at h
  split at h
  · cases h
    have r : Rep _ _ _ (.bl b) v := r
    cases r
    rfl
  · cases h
theorem dec_str {x y : Str} : decide (V.str x = V.str y) = decide (x = y) := by simp
theorem ordIV_data {i j : IV} {p : PyData × PyData} (h : ordIV i j = some p) : toD i = some p.1 ∧ toD j = some p.2 ∧ SeqAt.shaped p.1 = true ∧ SeqAt.shaped p.2 = true ∧ PySem.W.alike p.1 p.2 = true ∧ p.1 ≠ .none := by
  unfold ordIV at h
  obtain ⟨d, h1, h2⟩ := Option.bind_eq_some_iff.mp h
  obtain ⟨e, h3, h4⟩ := Option.bind_eq_some_iff.mp h2
  split at h4
  · rename_i hs
    cases h4
    obtain ⟨hs, s4⟩ := Bool.and_eq_true_iff.mp hs
    obtain ⟨hs, s3⟩ := Bool.and_eq_true_iff.mp hs
    obtain ⟨s1, s2⟩ := Bool.and_eq_true_iff.mp hs
    refine ⟨h1, h3, s1, s2, s3, ?_⟩
    rintro rfl
    cases s4
  · cases h4
theorem repM_str {mg : G} {L : Addr → Prop} {H : Hp} {z : Str} {v : V} (r : RepM mg L H (.str z) v) : v = .str z := by
  cases r
  rfl
theorem repP_non {mg : G} {ρ : Rho} {os : OS} {H : Hp} {x : PV} {v : V} (r : RepP mg ρ os H x v) : isNonP x = decide (v = .non) := by
  cases x with
  | ref k =>
    obtain ⟨p, _, rfl⟩ := r
    rfl
  | iv x =>
    have r' : Rep mg (Live ρ os) H x v := r
    cases r' <;> rfl
theorem inIV_cases {i j : IV} {b : Bool} (h : inIV i j = some b) :
    (∃ ys d ds, j = .lst ys ∧ toD i = some d ∧ toDs ys = some ds ∧ SeqAt.shaped d = true ∧ SeqAt.shaped (.list ds) = true ∧ b = ds.any fun z => PyData.eqv z d) ∨
    (∃ ys d ds, j = .tup ys ∧ toD i = some d ∧ toDs ys = some ds ∧ SeqAt.shaped d = true ∧ SeqAt.shaped (.tuple ds) = true ∧ b = ds.any fun z => PyData.eqv z d) ∨
    (∃ z c, j = .str z ∧ i = .str c ∧ b = !(Builtin.Str.occurrences z c 0 z.length 1).isEmpty) := by
  unfold inIV at h
  split at h
  · obtain ⟨d, h1, h2⟩ := Option.bind_eq_some_iff.mp h
    obtain ⟨e, h3, h4⟩ := Option.bind_eq_some_iff.mp h2
    split at h4
    · rename_i hs
      cases h4
      obtain ⟨s1, s2⟩ := Bool.and_eq_true_iff.mp hs
      exact .inl ⟨_, d, e, rfl, h1, h3, s1, s2, rfl⟩
    · cases h4
  · obtain ⟨d, h1, h2⟩ := Option.bind_eq_some_iff.mp h
    obtain ⟨e, h3, h4⟩ := Option.bind_eq_some_iff.mp h2
    split at h4
    · rename_i hs
      cases h4
      obtain ⟨s1, s2⟩ := Bool.and_eq_true_iff.mp hs
      exact .inr (.inl ⟨_, d, e, rfl, h1, h3, s1, s2, rfl⟩)
    · cases h4
  · split at h
    · cases h
      exact .inr (.inr ⟨_, _, rfl, rfl, rfl⟩)
    · cases h
  · cases h
theorem op_cmpAll (hu : X.A.units + 65 < cLine) (op : CmpOp) : OpR X (compareOp op) (rC X.g op) := by
  have hu' : X.A.units + 64 < cLine := by omega
  rintro pins s σ H x y v u Q I rx ry ⟨ρ, os, px, py, b, hs, r1, r2, h, q⟩
  cases op with
  | Eq =>
    obtain ⟨i, j, ri, rj, e⟩ := cmp_read hs r1 r2 h
    rcases eqIV_data e with ⟨z1, z2, rfl, rfl, rfl⟩ | ⟨d, e', h1, h2, s1, s2, rfl⟩
    · have z1 := repM_str ri
      have z2 := repM_str rj
      subst z1 z2
      exact op_eq pins s σ H _ _ v u Q I rx ry ⟨rfl, by rw [dec_str]; exact q⟩
    exact op_eqD hu' pins s σ H x y v u Q I rx ry ⟨d, e', repM_dp ri h1, repM_dp rj h2, s1, s2, q⟩
  | NotEq =>
    obtain ⟨i, j, ri, rj, e⟩ := cmp_read hs r1 r2 h
    obtain ⟨b', e2, rfl⟩ := Option.map_eq_some_iff.mp e
    rcases eqIV_data e2 with ⟨z1, z2, rfl, rfl, rfl⟩ | ⟨d, e', h1, h2, s1, s2, rfl⟩
    · have z1 := repM_str ri
      have z2 := repM_str rj
      subst z1 z2
      exact op_ne pins s σ H _ _ v u Q I rx ry ⟨rfl, by rw [dec_str]; exact q⟩
    exact op_neD hu' pins s σ H x y v u Q I rx ry ⟨d, e', repM_dp ri h1, repM_dp rj h2, s1, s2, q⟩
  | Lt =>
    obtain ⟨i, j, ri, rj, e⟩ := cmp_read hs r1 r2 h
    obtain ⟨p, e2, rfl⟩ := Option.map_eq_some_iff.mp e
    obtain ⟨h1, h2, s1, s2, al, nn⟩ := ordIV_data e2
    exact op_ltD hu' pins s σ H x y v u Q I rx ry ⟨p.1, p.2, repM_dp ri h1, repM_dp rj h2, s1, s2, al, nn, q⟩
  | Gt =>
    obtain ⟨i, j, ri, rj, e⟩ := cmp_read hs r1 r2 h
    obtain ⟨p, e2, rfl⟩ := Option.map_eq_some_iff.mp e
    obtain ⟨h1, h2, s1, s2, al, nn⟩ := ordIV_data e2
    exact op_gtD hu' pins s σ H x y v u Q I rx ry ⟨p.1, p.2, repM_dp ri h1, repM_dp rj h2, s1, s2, al, nn, q⟩
  | LtE =>
    obtain ⟨i, j, ri, rj, e⟩ := cmp_read hs r1 r2 h
    obtain ⟨p, e2, rfl⟩ := Option.map_eq_some_iff.mp e
    obtain ⟨h1, h2, s1, s2, al, nn⟩ := ordIV_data e2
    exact op_leD hu' pins s σ H x y v u Q I rx ry ⟨p.1, p.2, repM_dp ri h1, repM_dp rj h2, s1, s2, al, nn, q⟩
  | GtE =>
    obtain ⟨i, j, ri, rj, e⟩ := cmp_read hs r1 r2 h
    obtain ⟨p, e2, rfl⟩ := Option.map_eq_some_iff.mp e
    obtain ⟨h1, h2, s1, s2, al, nn⟩ := ordIV_data e2
    exact op_geD hu' pins s σ H x y v u Q I rx ry ⟨p.1, p.2, repM_dp ri h1, repM_dp rj h2, s1, s2, al, nn, q⟩
  | In =>
    obtain ⟨i, j, ri, rj, e⟩ := cmp_read hs r1 r2 h
    rcases inIV_cases e with ⟨ys, d, ds, rfl, h1, h2, s1, s2, rfl⟩ | ⟨ys, d, ds, rfl, h1, h2, s1, s2, rfl⟩ | ⟨z, c, rfl, rfl, rfl⟩
    · exact op_inLs hu pins s σ H x y v u Q I rx ry ⟨d, ds, repM_dp ri h1, repM_dp rj (by simp [toD, h2]), s1, s2, by simpa using q⟩
    · exact op_inT hu pins s σ H x y v u Q I rx ry ⟨d, ds, repM_dp ri h1, repM_dp rj (by simp [toD, h2]), s1, s2, by simpa using q⟩
    · exact op_in_str pins s σ H x y v u Q I rx ry ⟨c, z, repM_str ri, repM_str rj, q⟩
  | NotIn =>
    obtain ⟨i, j, ri, rj, e⟩ := cmp_read hs r1 r2 h
    obtain ⟨b', e2, rfl⟩ := Option.map_eq_some_iff.mp e
    rcases inIV_cases e2 with ⟨ys, d, ds, rfl, h1, h2, s1, s2, rfl⟩ | ⟨ys, d, ds, rfl, h1, h2, s1, s2, rfl⟩ | ⟨z, c, rfl, rfl, rfl⟩
    · exact op_ninLs hu pins s σ H x y v u Q I rx ry ⟨d, ds, repM_dp ri h1, repM_dp rj (by simp [toD, h2]), s1, s2, by simpa using q⟩
    · exact op_ninT hu pins s σ H x y v u Q I rx ry ⟨d, ds, repM_dp ri h1, repM_dp rj (by simp [toD, h2]), s1, s2, by simpa using q⟩
    · exact op_notin_str pins s σ H x y v u Q I rx ry ⟨c, z, repM_str ri, repM_str rj, q⟩
  | Is =>
    simp only [cmpPV] at h
    split at h
    · rename_i hn
      cases h
      rw [repP_non r2] at hn
      exact op_isN pins s σ H x y v u Q I rx ry ⟨of_decide_eq_true hn, by rw [← repP_non r1]; exact q⟩
    · obtain ⟨b1, e1, h⟩ := Option.bind_eq_some_iff.mp h
      obtain ⟨b2, e2, rfl⟩ := Option.map_eq_some_iff.mp h
      exact op_is_bl pins s σ H x y v u Q I rx ry ⟨b1, b2, isBlP_rep e1 r1, isBlP_rep e2 r2, q⟩
  | IsNot =>
    simp only [cmpPV] at h
    split at h
    · rename_i hn
      cases h
      rw [repP_non r2] at hn
      exact op_notN pins s σ H x y v u Q I rx ry ⟨of_decide_eq_true hn, by rw [← repP_non r1]; exact q⟩
    · obtain ⟨b1, e1, h⟩ := Option.bind_eq_some_iff.mp h
      obtain ⟨b2, e2, rfl⟩ := Option.map_eq_some_iff.mp h
      exact op_isnot_bl pins s σ H x y v u Q I rx ry ⟨b1, b2, isBlP_rep e1 r1, isBlP_rep e2 r2, q⟩
def cmpF (op : CmpOp) (x y : PV) (os : OS) : Res PV := .lift ((cmpPV os op x y).map fun b => .iv (.bl b)) os
theorem cmp_gives {op : CmpOp} {mg : G} {W : WX} {σ : L2.St} {ρ : Rho} {os : OS} {H : Hp} {x y : PV} {x' y' : V} {K : PV → Rho → OS → Hp → Prop} (s : StOk mg ρ H os) (rx : RepP mg ρ os H x x') (ry : RepP mg ρ os H y y')
    (g : Gives mg W σ ρ os H (cmpF op x y os) K) : ∃ b, cmpPV os op x y = some b ∧ K (.iv (.bl b)) ρ os H := by
  obtain ⟨v, e, k⟩ := g.lift
  obtain ⟨b, e1, rfl⟩ := Option.map_eq_some_iff.mp e
  exact ⟨b, e1, k ρ H Ext.refl s⟩
theorem sd_cmp {op : CmpOp} (hu : X.A.units + 65 < cLine) (hm : behindInMarks op b = false) (ha : PE X a (rdE X.g W da)) (hb : PE X b (rdE X.g W db)) :
    PE X (.Compare a [op] [b] pos) (rdE X.g W (fun env os => (da env os).bind fun x os1 => (db env os1).bind fun y os2 => cmpF op x y os2)) := by
  refine PE.imp (pe_cmpR (op_cmpAll hu op) ha hb hm) (op2 fun σ ρ os H x y x' y' Q s rx ry g => ?_)
  obtain ⟨b, e, k⟩ := cmp_gives s rx ry g
  exact ⟨ρ, os, x, y, b, s, rx, ry, e, k _ (Rep.bl b)⟩
theorem st_cmp {op : CmpOp} (hu : X.A.units + 65 < cLine) (hm : behindInMarks op b = false) (ha : PE X a (rdE X.g W da)) (hb : PE X b (rdE X.g W db)) :
    PT X (.Compare a [op] [b] pos) (rdT X.g W (fun env os => (da env os).bind fun x os1 => (db env os1).bind fun y os2 => cmpF op x y os2)) := by
  refine PT.imp (pt_cmpR (op_cmpAll hu op) ha hb hm) ?_
  rintro σ H Q ⟨ρ, env, os, hs, he, g⟩
  refine ⟨ρ, env, os, hs, he, g.bind.imp fun x ρ1 os1 H1 e1 s1 k x' rx => ?_⟩
  refine ⟨ρ1, env, os1, s1, he.ext e1, k.bind.imp fun y ρ2 os2 H2 e2 s2 k2 y' ry => ?_⟩
  obtain ⟨b, e, c, ec, k3⟩ := cmp_gives s2 (rx.ext e2) ry k2
  cases ec
  exact ⟨ρ2, os2, x, y, b, s2, rx.ext e2, ry, e, b, rfl, k3⟩

/-! ### chains -/
variable {c : Expr} {dc : Env → OS → Res PV}
def chainF (op op' : CmpOp) (da db dc : Env → OS → Res PV) : Env → OS → Res PV := fun env os => (da env os).bind fun x os1 => (db env os1).bind fun y os2 => (match cmpPV os2 op x y with
    | some true => (dc env os2).bind fun z os3 => cmpF op' y z os3
    | some false => .ok (.iv (.bl false)) os2
    | none => .bad)
theorem chain_imp {op op' : CmpOp} {mg : G} {σ : L2.St} {H : Hp} {KK : PV → Hp → Prop} {Q : VK} (hQ : ∀ b H', KK (.iv (.bl b)) H' → Q (.bl b) H')
    (h : ∃ ρ env os, StOk mg ρ H os ∧ EnvOk mg ρ os H env σ ∧ Gives mg W σ ρ os H (chainF op op' da db dc env os) (fun v ρ' os' H' => KK v H')) :
    tChain (rC mg op) (rC mg op') (rdE mg W da) (rdE mg W db) (rdE mg W dc) σ H Q := by
  obtain ⟨ρ, env, os, hs, he, g⟩ := h
  refine ⟨ρ, env, os, hs, he, g.bind.imp fun x ρ1 os1 H1 e1 s1 k x' rx => ?_⟩
  refine ⟨ρ1, env, os1, s1, he.ext e1, k.bind.imp fun y ρ2 os2 H2 e2 s2 k2 y' ry => ?_⟩
  cases e : cmpPV os2 op x y with
  | none =>
    rw [e] at k2
    exact False.elim k2
  | some b =>
    rw [e] at k2
    refine ⟨ρ2, os2, x, y, b, s2, rx.ext e2, ry, e, b, rfl, ?_⟩
    cases b with
    | false =>
      rw [if_neg Bool.false_ne_true]
      exact hQ _ _ (k2 ρ2 H2 Ext.refl s2)
    | true =>
      rw [if_pos rfl]
      refine ⟨ρ2, env, os2, s2, (he.ext e1).ext e2, Gives.imp (Gives.bind k2) fun z ρ3 os3 H3 e3 s3 k3 z' rz => ?_⟩
      obtain ⟨b', e', k4⟩ := cmp_gives s3 (ry.ext e3) rz k3
      exact ⟨ρ3, os3, y, z, b', s3, ry.ext e3, rz, e', hQ _ _ k4⟩
theorem sd_chain {op op' : CmpOp} (hu : X.A.units + 65 < cLine) (hm : lastMarks [op, op'] [b, c] = false) (ha : PE X a (rdE X.g W da)) (hb : PE X b (rdE X.g W db)) (hc : PE X c (rdE X.g W dc)) :
    PE X (.Compare a [op, op'] [b, c] pos) (rdE X.g W (chainF op op' da db dc)) := by
  refine PE.imp (pe_chain (op_cmpAll hu op) (op_cmpAll hu op') ha hb hc hm) fun σ H Q h => ?_
  obtain ⟨ρ, env, os, hs, he, g⟩ := h
  refine chain_imp (KK := fun v H' => ∀ b, v = .iv (.bl b) → Q (.bl b) H') (fun b H' q => q b rfl) ⟨ρ, env, os, hs, he, g.imp fun v ρ' os' H' _ _ k b e => ?_⟩
  subst e
  exact k _ (Rep.bl b)
theorem st_chain {op op' : CmpOp} (hu : X.A.units + 65 < cLine) (hm : lastMarks [op, op'] [b, c] = false) (ha : PE X a (rdE X.g W da)) (hb : PE X b (rdE X.g W db)) (hc : PE X c (rdE X.g W dc)) :
    PT X (.Compare a [op, op'] [b, c] pos) (rdT X.g W (chainF op op' da db dc)) := by
  refine PT.imp (pt_chain (op_cmpAll hu op) (op_cmpAll hu op') ha hb hc hm) fun σ H Q h => ?_
  obtain ⟨ρ, env, os, hs, he, g⟩ := h
  refine chain_imp (KK := fun v H' => ∃ b, v = .iv (.bl b) ∧ Q b H') (fun b H' q => ?_) ⟨ρ, env, os, hs, he, g⟩
  obtain ⟨b', e, q⟩ := q
  cases e
  exact ⟨b, rfl, q⟩
end
end DP

set_option Elab.async false
set_option linter.all false
set_option maxRecDepth 100000
set_option maxHeartbeats 1000000
/-! Ev3: names, tests, displays, places, slices. -/
namespace DP
open PySem PySem.Spec L2

section
variable {X : Cx} {W : WX} {a b c e : Expr} {es : List Expr} {da db dc : Env → OS → Res PV} {pos : Pos}

theorem sd_cst {v : IV} {v' : V} (hv : ∀ L H, Rep X.g L H v v') (h : PE X e (tC v')) : PE X e (rdE X.g W (fun _ os => .ok (.iv v) os)) := by
  refine PE.imp h ?_
  rintro σ H Q ⟨ρ, env, os, hs, he, g⟩
  exact g ρ H Ext.refl hs v' (hv _ _)
theorem sd_var {i : Nat} {x : Str} (hN : X.N[i]? = some x) (hv : Vis X.env.scope x) (hd : (x == ("__debug__" : Str)) = false) (hcd : (x == ("__classdict__" : Str)) = false) :
    PE X (.Name x pos) (rdE X.g W (fun env os => match env[i]? with
      | some (some v) => .ok v os
      | _ => .bad)) := by
  refine PE.imp (pe_var hN hv hd hcd) ?_
  rintro σ H Q ⟨ρ, env, os, hs, he, g⟩
  dsimp only at g
  cases e : env[i]? with
  | none => rw [e] at g; exact False.elim g
  | some o =>
    cases o with
    | none => rw [e] at g; exact False.elim g
    | some v =>
      rw [e] at g
      obtain ⟨v', h1, h2⟩ := he.at_ i v e
      exact ⟨v', h1, g ρ H Ext.refl hs v' h2⟩
theorem sd_neg (ha : PE X a (rdE X.g W da)) : PE X (.UnaryOp .USub a pos) (rdE X.g W (fun env os => (da env os).bind fun x os1 => (match x with
    | .iv (.int i) => .ok (.iv (.int (-i))) os1
    | _ => .bad))) := by
  refine PE.imp (pe_un un_neg ha) ?_
  rintro σ H Q ⟨ρ, env, os, hs, he, g⟩
  refine ⟨ρ, env, os, hs, he, g.bind.imp fun x ρ1 os1 H1 e1 s1 k x' rx => ?_⟩
  split at k
  · cases rx
    exact ⟨_, rfl, k ρ1 H1 Ext.refl s1 _ (Rep.int _)⟩
  · exact False.elim k
/-- a value that is a bool, tested -/
theorem st_val {d : Env → OS → Res PV} (h : PE X e (rdE X.g W d)) (he : ∀ whole, isTrue e X.env whole = (do let v ← whole; standAt e.pos; holding [v] (truthy v))) : PT X e (rdT X.g W d) := by
  refine PT.imp (pt_val h he) ?_
  rintro σ H Q ⟨ρ, env, os, hs, he, g⟩
  refine ⟨ρ, env, os, hs, he, g.imp fun x ρ1 os1 H1 e1 s1 k x' rx => ?_⟩
  obtain ⟨b, rfl, q⟩ := k
  cases rx
  exact ⟨b, rfl, q⟩
def notF (da : Env → OS → Res PV) : Env → OS → Res PV := fun env os => (da env os).bind fun x os1 => (match x with
    | .iv (.bl b) => .ok (.iv (.bl (!b))) os1
    | _ => .bad)
theorem sd_not (ha : PE X a (rdE X.g W da)) : PE X (.UnaryOp .Not a pos) (rdE X.g W (notF da)) := by
  refine PE.imp (pe_not ha) ?_
  rintro σ H Q ⟨ρ, env, os, hs, he, g⟩
  refine ⟨ρ, env, os, hs, he, g.bind.imp fun x ρ1 os1 H1 e1 s1 k x' rx => ?_⟩
  split at k
  · cases rx
    exact ⟨_, rfl, k ρ1 H1 Ext.refl s1 _ (Rep.bl _)⟩
  · exact False.elim k
theorem st_not (ha : PT X a (rdT X.g W da)) : PT X (.UnaryOp .Not a pos) (rdT X.g W (notF da)) := by
  refine PT.imp (pt_not ha) ?_
  rintro σ H Q ⟨ρ, env, os, hs, he, g⟩
  refine ⟨ρ, env, os, hs, he, g.bind.imp fun x ρ1 os1 H1 e1 s1 k => ?_⟩
  split at k
  · obtain ⟨b', e, q⟩ := k ρ1 H1 Ext.refl s1
    cases e
    exact ⟨_, rfl, q⟩
  · exact False.elim k
def andF (da db : Env → OS → Res PV) : Env → OS → Res PV := fun env os => (da env os).bind fun x os1 => (match x with
    | .iv (.bl true) => db env os1
    | .iv (.bl false) => .ok (.iv (.bl false)) os1
    | _ => .bad)
def orF (da db : Env → OS → Res PV) : Env → OS → Res PV := fun env os => (da env os).bind fun x os1 => (match x with
    | .iv (.bl true) => .ok (.iv (.bl true)) os1
    | .iv (.bl false) => db env os1
    | _ => .bad)
theorem and_imp {mg : G} {σ : L2.St} {H : Hp} {Q : VK} (h : rdE mg W (andF da db) σ H Q) : tAndV (rdE mg W da) (rdE mg W db) σ H Q := by
  obtain ⟨ρ, env, os, hs, he, g⟩ := h
  refine ⟨ρ, env, os, hs, he, g.bind.imp fun x ρ1 os1 H1 e1 s1 k x' rx => ?_⟩
  split at k
  · cases rx
    refine ⟨true, rfl, ?_⟩
    rw [if_pos rfl]
    exact ⟨ρ1, env, os1, s1, he.ext e1, k⟩
  · cases rx
    refine ⟨false, rfl, ?_⟩
    rw [if_neg Bool.false_ne_true]
    exact k ρ1 H1 Ext.refl s1 _ (Rep.bl _)
  · exact False.elim k
theorem or_imp {mg : G} {σ : L2.St} {H : Hp} {Q : VK} (h : rdE mg W (orF da db) σ H Q) : tOrV (rdE mg W da) (rdE mg W db) σ H Q := by
  obtain ⟨ρ, env, os, hs, he, g⟩ := h
  refine ⟨ρ, env, os, hs, he, g.bind.imp fun x ρ1 os1 H1 e1 s1 k x' rx => ?_⟩
  split at k
  · cases rx
    refine ⟨true, rfl, ?_⟩
    rw [if_pos rfl]
    exact k ρ1 H1 Ext.refl s1 _ (Rep.bl _)
  · cases rx
    refine ⟨false, rfl, ?_⟩
    rw [if_neg Bool.false_ne_true]
    exact ⟨ρ1, env, os1, s1, he.ext e1, k⟩
  · exact False.elim k
theorem sd_and (ha : PE X a (rdE X.g W da)) (hb : PE X (.BoolOp .And (b :: es) pos) (rdE X.g W db)) : PE X (.BoolOp .And (a :: b :: es) pos) (rdE X.g W (andF da db)) := PE.imp (pe_and ha hb) fun _ _ _ => and_imp
theorem sd_or (ha : PE X a (rdE X.g W da)) (hb : PE X (.BoolOp .Or (b :: es) pos) (rdE X.g W db)) : PE X (.BoolOp .Or (a :: b :: es) pos) (rdE X.g W (orF da db)) := PE.imp (pe_or ha hb) fun _ _ _ => or_imp
theorem sd_one {op : BoolOp} (ha : PE X a (rdE X.g W da)) : PE X (.BoolOp op [a] pos) (rdE X.g W da) := pe_one ha
theorem st_and (ha : PT X a (rdT X.g W da)) (hb : PW X (.BoolOp .And (b :: es) pos) (rdT X.g W db)) : PW X (.BoolOp .And (a :: b :: es) pos) (rdT X.g W (andF da db)) := by
  refine ⟨fun wh pins s σ H Q I h => (pw_and ha hb).run wh pins s σ H Q I ?_⟩
  obtain ⟨ρ, env, os, hs, he, g⟩ := h
  refine ⟨ρ, env, os, hs, he, g.bind.imp fun x ρ1 os1 H1 e1 s1 k => ?_⟩
  split at k
  · refine ⟨true, rfl, ?_⟩
    refine iteT ?_
    exact ⟨ρ1, env, os1, s1, he.ext e1, k⟩
  · refine ⟨false, rfl, ?_⟩
    refine iteF ?_
    obtain ⟨b', e, q⟩ := k ρ1 H1 Ext.refl s1
    cases e
    exact q
  · exact False.elim k
theorem st_or (ha : PT X a (rdT X.g W da)) (hb : PW X (.BoolOp .Or (b :: es) pos) (rdT X.g W db)) : PW X (.BoolOp .Or (a :: b :: es) pos) (rdT X.g W (orF da db)) := by
  refine ⟨fun wh pins s σ H Q I h => (pw_or ha hb).run wh pins s σ H Q I ?_⟩
  obtain ⟨ρ, env, os, hs, he, g⟩ := h
  refine ⟨ρ, env, os, hs, he, g.bind.imp fun x ρ1 os1 H1 e1 s1 k => ?_⟩
  split at k
  · refine ⟨true, rfl, ?_⟩
    refine iteT ?_
    obtain ⟨b', e, q⟩ := k ρ1 H1 Ext.refl s1
    cases e
    exact q
  · refine ⟨false, rfl, ?_⟩
    refine iteF ?_
    exact ⟨ρ1, env, os1, s1, he.ext e1, k⟩
  · exact False.elim k
def iteF' (dc da db : Env → OS → Res PV) : Env → OS → Res PV := fun env os => (dc env os).bind fun x os1 => (match x with
    | .iv (.bl true) => da env os1
    | .iv (.bl false) => db env os1
    | _ => .bad)
theorem sd_ite (hc : PT X c (rdT X.g W dc)) (ha : PE X a (rdE X.g W da)) (hb : PE X b (rdE X.g W db)) : PE X (.IfExp c a b pos) (rdE X.g W (iteF' dc da db)) := by
  refine PE.imp (pe_ifExp hc ha hb) ?_
  rintro σ H Q ⟨ρ, env, os, hs, he, g⟩
  refine ⟨ρ, env, os, hs, he, g.bind.imp fun x ρ1 os1 H1 e1 s1 k => ?_⟩
  split at k
  · refine ⟨true, rfl, ?_⟩
    refine iteT ?_
    exact ⟨ρ1, env, os1, s1, he.ext e1, k⟩
  · refine ⟨false, rfl, ?_⟩
    refine iteF ?_
    exact ⟨ρ1, env, os1, s1, he.ext e1, k⟩
  · exact False.elim k

/-! ### rows of expressions -/
inductive RepPs (mg : G) (ρ : Rho) (os : OS) (H : Hp) : List PV → List V → Prop
  | nil : RepPs mg ρ os H [] []
  | cons {x : PV} {xs : List PV} {v : V} {vs : List V} : RepP mg ρ os H x v → RepPs mg ρ os H xs vs → RepPs mg ρ os H (x :: xs) (v :: vs)
theorem RepPs.ext {mg : G} {ρ ρ' : Rho} {os os' : OS} {H H' : Hp} (e : Ext ρ os H ρ' os' H') : ∀ {xs : List PV} {vs : List V}, RepPs mg ρ os H xs vs → RepPs mg ρ' os' H' xs vs
  | _, _, .nil => .nil
  | _, _, .cons r t => .cons (r.ext e) (RepPs.ext e t)
theorem RepPs.length {mg : G} {ρ : Rho} {os : OS} {H : Hp} : ∀ {xs : List PV} {vs : List V}, RepPs mg ρ os H xs vs → xs.length = vs.length
  | _, _, .nil => rfl
  | _, _, .cons _ t => by simp [RepPs.length t]
def rdP (mg : G) (W : WX) (d : Env → OS → Res (List PV)) : TA := fun σ H Q => ∃ ρ env os, StOk mg ρ H os ∧ EnvOk mg ρ os H env σ ∧
  Gives mg W σ ρ os H (d env os) (fun xs ρ' os' H' => ∀ vs, RepPs mg ρ' os' H' xs vs → Q vs H')
def rdV (mg : G) (W : WX) (d : Env → OS → Res (List IV)) : TA := fun σ H Q => ∃ ρ env os, StOk mg ρ H os ∧ EnvOk mg ρ os H env σ ∧
  Gives mg W σ ρ os H (d env os) (fun xs ρ' os' H' => ∀ vs, Reps mg (Live ρ' os') H' xs vs → Q vs H')
def notStar : Expr → Bool
  | .Starred _ _ => false
  | _ => true
theorem star_plain (h : notStar e = true) (env : PySem.Env) : starEach (e :: es) env = (false, eval e env) :: starEach es env := by
  cases e <;> first | rfl | (simp [notStar] at h)
theorem star_all {env : PySem.Env} : ∀ {es : List Expr}, es.all notStar = true → (PySem.backTo pos (starEach es env)).any (·.1) = false
  | [], _ => rfl
  | e :: es, h => by
    obtain ⟨h1, h2⟩ := Bool.and_eq_true_iff.mp (show (notStar e && es.all notStar) = true from h)
    rw [star_plain h1]
    show (false || (PySem.backTo pos (starEach es env)).any (·.1)) = false
    rw [star_all h2]
    rfl
variable {dp : Env → OS → Res (List PV)} {dv : Env → OS → Res (List IV)}
theorem sp_nil : PA X [] (rdP X.g W (fun _ os => .ok [] os)) := by
  refine PA.imp pa_nil ?_
  rintro σ H Q ⟨ρ, env, os, hs, he, g⟩
  exact g ρ H Ext.refl hs [] .nil
theorem sp_cons (hst : notStar e = true) (ha : PE X e (rdE X.g W da)) (hb : PA X es (rdP X.g W dp)) : PA X (e :: es) (rdP X.g W (fun env os => (da env os).bind fun v os1 => (dp env os1).bind fun vs os2 => .ok (v :: vs) os2)) := by
  refine PA.imp (pa_cons ha hb (star_plain hst _)) ?_
  rintro σ H Q ⟨ρ, env, os, hs, he, g⟩
  refine ⟨ρ, env, os, hs, he, g.bind.imp fun x ρ1 os1 H1 e1 s1 k x' rx => ?_⟩
  refine ⟨ρ1, env, os1, s1, he.ext e1, k.bind.imp fun y ρ2 os2 H2 e2 s2 k2 y' ry => ?_⟩
  exact k2 ρ2 H2 Ext.refl s2 _ (.cons (rx.ext e2) ry)
theorem sv_nil : PA X [] (rdV X.g W (fun _ os => .ok [] os)) := by
  refine PA.imp pa_nil ?_
  rintro σ H Q ⟨ρ, env, os, hs, he, g⟩
  exact g ρ H Ext.refl hs [] .nil
theorem sv_cons (hst : notStar e = true) (ha : PE X e (rdE X.g W da)) (hb : PA X es (rdV X.g W dv)) : PA X (e :: es) (rdV X.g W (fun env os => (da env os).bind fun v os1 => (match v with
    | .iv x => (dv env os1).bind fun xs os2 => .ok (x :: xs) os2
    | .ref _ => .bad))) := by
  refine PA.imp (pa_cons ha hb (star_plain hst _)) ?_
  rintro σ H Q ⟨ρ, env, os, hs, he, g⟩
  refine ⟨ρ, env, os, hs, he, g.bind.imp fun x ρ1 os1 H1 e1 s1 k x' rx => ?_⟩
  split at k
  · refine ⟨ρ1, env, os1, s1, he.ext e1, Gives.imp (Gives.bind k) fun y ρ2 os2 H2 e2 s2 k2 y' ry => ?_⟩
    exact k2 ρ2 H2 Ext.refl s2 _ (.cons (Rep.ext rx e2) ry)
  · exact False.elim k
theorem sd_tup {k : Nat} (h : PA X es (rdV X.g W dv)) : PE X (.Tuple es k pos) (rdE X.g W (fun env os => (dv env os).bind fun xs os1 => if szOk xs.length then .ok (.iv (.tup xs)) os1 else .bad)) := by
  refine PE.imp (pe_tup h) ?_
  rintro σ H Q ⟨ρ, env, os, hs, he, g⟩
  refine ⟨ρ, env, os, hs, he, g.bind.imp fun xs ρ1 os1 H1 e1 s1 k vs rx => ?_⟩
  split at k
  · rename_i hz
    exact ⟨by rw [← rx.length]; exact szOk_le hz, fun p hp => k ρ1 _ (ext_fresh hp) (s1.fresh hp) _ (new_tup s1 hp rx)⟩
  · exact False.elim k
/-- a new list, of the store or not -/
theorem mk_gives {mg : G} {m : Bool} {σ : L2.St} {ρ : Rho} {os : OS} {H : Hp} {xs : List IV} {vs : List V} {Q : VK} (s : StOk mg ρ H os) (r : Reps mg (Live ρ os) H xs vs)
    (g : Gives mg W σ ρ os H (mkList m xs os) (fun v ρ' os' H' => ∀ v', RepP mg ρ' os' H' v v' → Q v' H')) {p : Addr} (hp : H p = none) : Q (.ref p) (upd H p (.lst vs)) := by
  cases m with
  | false =>
    simp only [mkList, Bool.false_eq_true, if_false] at g
    exact g ρ _ (ext_fresh hp) (s.fresh hp) _ (new_lst s hp r)
  | true =>
    simp only [mkList, if_true] at g
    have e := ext_push (u := .lst vs) (o := .lst xs) s.len hp
    refine g (ρ.push (p, [])) (upd H p (.lst vs)) e (s.push hp ⟨rfl, vs, upd_same, r.ext e⟩) (.ref p) ⟨(p, []), ?_, rfl⟩
    rw [← s.len]
    simp [Rho.push]
theorem sd_lst {m : Bool} (h : PA X es (rdV X.g W dv)) : PE X (.List es pos) (rdE X.g W (fun env os => (dv env os).bind fun xs os1 => if szOk xs.length then mkList m xs os1 else .bad)) := by
  refine PE.imp (pe_lst h) ?_
  rintro σ H Q ⟨ρ, env, os, hs, he, g⟩
  refine ⟨ρ, env, os, hs, he, g.bind.imp fun xs ρ1 os1 H1 e1 s1 k vs rx => ?_⟩
  split at k
  · rename_i hz
    exact ⟨by rw [← rx.length]; exact szOk_le hz, fun p hp => mk_gives s1 rx k hp⟩
  · exact False.elim k

theorem sd_cat {a b : Expr} {da db : Env → OS → Res PV} {pos : Pos} (ha : PE X a (rdE X.g W da)) (hb : PE X b (rdE X.g W db)) : PE X (.BinOp a .Add b pos) (rdE X.g W (fun env os => (da env os).bind fun x os1 => (db env os1).bind fun y os2 => catF x y os2)) := by
  refine PE.imp (pe_op op_cat ha hb) (op2 fun σ ρ os H x y x' y' Q s rx ry g => ?_)
  unfold catF at g
  split at g
  · rename_i xs ys hx hy
    split at g
    · rename_i hz
      obtain ⟨a1, vs1, rfl, h1, r1⟩ := rd_rep s rx hx
      obtain ⟨a2, vs2, rfl, h2, r2⟩ := rd_rep s ry hy
      exact ⟨_, _, _, _, rfl, rfl, h1, h2, by rw [← r1.length, ← r2.length]; exact szOk_le hz, fun p hp => mk_gives s (r1.append r2) g hp⟩
    · exact False.elim g
  · exact False.elim g

/-! ### places -/
def idxF (x y : PV) (os : OS) : Res PV := .lift (((rd os x).bind fun x => (rd os y).bind fun y => idxIV x y).map .iv) os
theorem idx_cases {mg : G} {W : WX} {σ : L2.St} {ρ : Rho} {os : OS} {H : Hp} {x y : PV} {x' y' : V} {Q : VK} (s : StOk mg ρ H os) (rx : RepP mg ρ os H x x') (ry : RepP mg ρ os H y y')
    (g : Gives mg W σ ρ os H (idxF x y os) (fun v ρ' os' H' => ∀ v', RepP mg ρ' os' H' v v' → Q v' H')) :
    ∃ i j c, RepM mg (Live ρ os) H i x' ∧ RepM mg (Live ρ os) H j y' ∧ idxIV i j = some c ∧ ∀ v', Rep mg (Live ρ os) H c v' → Q v' H := by
  obtain ⟨v, e, k⟩ := g.lift
  obtain ⟨c, e1, rfl⟩ := Option.map_eq_some_iff.mp e
  obtain ⟨i, e2, e3⟩ := Option.bind_eq_some_iff.mp e1
  obtain ⟨j, e4, e5⟩ := Option.bind_eq_some_iff.mp e3
  exact ⟨i, j, c, rd_rep s rx e2, rd_rep s ry e4, e5, k ρ H Ext.refl s⟩
theorem atI_rep {mg : G} {L : Addr → Prop} {H : Hp} {xs : List IV} {vs : List V} {i : Int} {c : IV} (r : Reps mg L H xs vs) (h : atI xs i = some c) : ∃ v, atI vs i = some v ∧ Rep mg L H c v := by
  unfold atI at h ⊢
  rw [← r.length]
  obtain ⟨j, e1, e2⟩ := Option.bind_eq_some_iff.mp h
  obtain ⟨v, e3, e4⟩ := r.get e2
  exact ⟨v, by rw [e1]; exact e3, e4⟩
theorem sd_idx (hs : PlainIx b) (ha : PE X a (rdE X.g W da)) (hb : PE X b (rdE X.g W db)) : PE X (.Subscript a b pos) (rdE X.g W (fun env os => (da env os).bind fun x os1 => (db env os1).bind fun y os2 => idxF x y os2)) := by
  refine PE.imp (pe_ix ix_seq ha hb hs) (op2 fun σ ρ os H x y x' y' Q s rx ry g => ?_)
  obtain ⟨i, j, c, ri, rj, e, k⟩ := idx_cases s rx ry g
  unfold idxIV at e
  split at e
  · cases rj
    cases ri with
    | tup h n r =>
      obtain ⟨v, e1, e2⟩ := atI_rep r e
      exact .inr (.inl ⟨_, _, _, v, rfl, rfl, SqT.of h, e1, k v e2⟩)
  · cases rj
    obtain ⟨a1, vs, rfl, h, r⟩ := ri
    obtain ⟨v, e1, e2⟩ := atI_rep r e
    exact .inl ⟨_, _, _, v, rfl, rfl, SqL.of h, e1, k v e2⟩
  · cases rj
    cases ri
    split at e
    · rename_i hz
      obtain ⟨c0, e1, rfl⟩ := Option.map_eq_some_iff.mp e
      exact .inr (.inr ⟨_, _, c0, rfl, rfl, szOk_le hz, e1, k _ (.str _)⟩)
    · cases e
  · cases e
def notSlice : Expr → Bool
  | .Slice _ _ _ _ => false
  | _ => true
theorem plainIx (h : notSlice b = true) : PlainIx b := by
  intro o i
  cases b <;> first | rfl | (simp [notSlice] at h)

/-! ### slices -/
theorem cutI_reps {mg : G} {L : Addr → Prop} {H : Hp} {xs : List IV} {vs : List V} {lo hi : Option Int} (r : Reps mg L H xs vs) : Reps mg L H (cutI xs lo hi) (cutV vs lo hi) := by
  unfold cutI cutV
  rw [r.length]
  exact (r.drop _).take _
def rSlc (mg : G) : V → Option Int → Option Int → Hp → VK → Prop := fun x lo hi H Q => ∃ ρ os i c, StOk mg ρ H os ∧ RepM mg (Live ρ os) H i x ∧ slcIV i lo hi = some c ∧ ∀ ρ' H', Ext ρ os H ρ' os H' → StOk mg ρ' H' os → ∀ v', Rep mg (Live ρ' os) H' c v' → Q v' H'
theorem sl_all : SlR X (rSlc X.g) := by
  intro pins s σ H x v vl vu lo hi sl Q I rx hsl pl pu h
  obtain ⟨ρ, os, i, c, hs, ri, e, k⟩ := h
  refine (SlR.or sl_tupA (SlR.or sl_list sl_str)) pins s σ H x v vl vu lo hi sl Q I rx hsl pl pu ?_
  unfold slcIV at e
  split at e
  · rename_i xs
    cases e
    cases ri with
    | tup h n r =>
      refine .inl ⟨_, _, rfl, SqT.of h, fun z => ?_, fun _ p hp => k ρ _ (ext_fresh hp) (hs.fresh hp) _ (new_tup hs hp (cutI_reps r))⟩
      have e : cutI xs lo hi = xs := by
        unfold cutI
        rw [r.length, z.1, z.2, List.drop_zero, Nat.sub_zero, ← r.length, List.take_length]
      rw [e] at k
      exact k ρ H Ext.refl hs _ (.tup h n r)
  · cases e
    obtain ⟨a1, vs, rfl, h, r⟩ := ri
    exact .inr (.inl ⟨_, _, rfl, SqL.of h, fun p hp => k ρ _ (ext_fresh hp) (hs.fresh hp) _ (new_lst hs hp (cutI_reps r))⟩)
  · split at e
    · rename_i hz
      cases e
      cases ri
      exact .inr (.inr ⟨_, rfl, szOk_le hz, k ρ H Ext.refl hs _ (.str _)⟩)
    · cases e
  · cases e
def slcF (x : PV) (lo hi : Option Int) (os : OS) : Res PV := .lift (((rd os x).bind fun x => slcIV x lo hi).map .iv) os
theorem slc_gives {mg : G} {σ : L2.St} {ρ : Rho} {os : OS} {H : Hp} {x : PV} {x' : V} {lo hi : Option Int} {Q : VK} (s : StOk mg ρ H os) (rx : RepP mg ρ os H x x')
    (g : Gives mg W σ ρ os H (slcF x lo hi os) (fun v ρ' os' H' => ∀ v', RepP mg ρ' os' H' v v' → Q v' H')) : rSlc mg x' lo hi H Q := by
  obtain ⟨v, e, k⟩ := g.lift
  obtain ⟨c, e1, rfl⟩ := Option.map_eq_some_iff.mp e
  obtain ⟨i, e2, e3⟩ := Option.bind_eq_some_iff.mp e1
  exact ⟨ρ, os, i, c, s, rd_rep s rx e2, e3, k⟩
theorem sd_sLo {p2 : Pos} (ha : PE X a (rdE X.g W da)) (hb : PE X b (rdE X.g W db)) : PE X (.Subscript a (.Slice (some b) none none p2) pos) (rdE X.g W (fun env os => (da env os).bind fun x os1 => (db env os1).bind fun l os2 => (match l with
    | .iv (.int i) => slcF x (some i) none os2
    | _ => .bad))) := by
  refine PE.imp (pe_slice sl_all ha (po_some hb) po_none) ?_
  rintro σ H Q ⟨ρ, env, os, hs, he, g⟩
  refine ⟨ρ, env, os, hs, he, g.bind.imp fun x ρ1 os1 H1 e1 s1 k x' rx => ?_⟩
  refine ⟨ρ1, env, os1, s1, he.ext e1, k.bind.imp fun y ρ2 os2 H2 e2 s2 k2 y' ry => ?_⟩
  split at k2
  · cases ry
    exact ⟨_, rfl, slc_gives s2 (rx.ext e2) k2⟩
  · exact False.elim k2
theorem sd_sHi {p2 : Pos} (ha : PE X a (rdE X.g W da)) (hb : PE X b (rdE X.g W db)) : PE X (.Subscript a (.Slice none (some b) none p2) pos) (rdE X.g W (fun env os => (da env os).bind fun x os1 => (db env os1).bind fun l os2 => (match l with
    | .iv (.int i) => slcF x none (some i) os2
    | _ => .bad))) := by
  refine PE.imp (pe_slice sl_all ha po_none (po_some hb)) ?_
  rintro σ H Q ⟨ρ, env, os, hs, he, g⟩
  refine ⟨ρ, env, os, hs, he, g.bind.imp fun x ρ1 os1 H1 e1 s1 k x' rx => ?_⟩
  refine ⟨ρ1, env, os1, s1, he.ext e1, k.bind.imp fun y ρ2 os2 H2 e2 s2 k2 y' ry => ?_⟩
  split at k2
  · cases ry
    exact ⟨_, rfl, slc_gives s2 (rx.ext e2) k2⟩
  · exact False.elim k2
theorem sd_sBo {p2 : Pos} (ha : PE X a (rdE X.g W da)) (hb : PE X b (rdE X.g W db)) (hc : PE X c (rdE X.g W dc)) : PE X (.Subscript a (.Slice (some b) (some c) none p2) pos) (rdE X.g W (fun env os => (da env os).bind fun x os1 => (db env os1).bind fun l os2 => (match l with
    | .iv (.int i) => (dc env os2).bind fun h os3 => (match h with
      | .iv (.int j) => slcF x (some i) (some j) os3
      | _ => .bad)
    | _ => .bad))) := by
  refine PE.imp (pe_slice sl_all ha (po_some hb) (po_some hc)) ?_
  rintro σ H Q ⟨ρ, env, os, hs, he, g⟩
  refine ⟨ρ, env, os, hs, he, g.bind.imp fun x ρ1 os1 H1 e1 s1 k x' rx => ?_⟩
  refine ⟨ρ1, env, os1, s1, he.ext e1, k.bind.imp fun y ρ2 os2 H2 e2 s2 k2 y' ry => ?_⟩
  split at k2
  · cases ry
    refine ⟨_, rfl, ρ2, env, os2, s2, (he.ext e1).ext e2, Gives.imp (Gives.bind k2) fun z ρ3 os3 H3 e3 s3 k3 z' rz => ?_⟩
    split at k3
    · cases rz
      exact ⟨_, rfl, slc_gives s3 ((rx.ext e2).ext e3) k3⟩
    · exact False.elim k3
  · exact False.elim k2
end
end DP

set_option Elab.async false
set_option linter.all false
set_option maxRecDepth 100000
set_option maxHeartbeats 1000000
/-! Ev3a: min and max of two texts. -/
namespace DP
open PySem L2
section
variable {prog : Program} {w : World} {A : Around} {E : Value → Shared → Prop} {s : Shared}
def strAt2 (x y : Str) (i : Nat) : Str := match i with
  | 0 => x
  | _ => y
theorem strAt2_ok {x y : Str} {t u : Tok} {i : Nat} {v : Value} (h : (#[Value.str x t, Value.str y u] : Array Value)[i]? = some v) : ∃ k, v = .str (strAt2 x y i) k := by
  match i, h with
  | 0, h => simp at h; exact ⟨t, h.symm⟩
  | 1, h => simp at h; exact ⟨u, h.symm⟩
  | i + 2, h => simp at h
theorem cmp2_lt {x y : Str} {t u : Tok} : CmpOf prog w A .Lt (fun i v => (#[Value.str x t, Value.str y u] : Array Value)[i]? = some v) (fun i j => W.dataLt (.str (strAt2 x y i)) (.str (strAt2 x y j))) := fun i j vi vj s Q E hi hj h => by
  obtain ⟨k, rfl⟩ := strAt2_ok hi
  obtain ⟨l, rfl⟩ := strAt2_ok hj
  have h : Q (.bool (W.dataLt (.str (strAt2 x y i)) (.str (strAt2 x y j)))) s := h
  rw [W.dataLt_str] at h
  exact (PyProof.Rows.lt_str h : wpAny (model prog w) A (compareOp .Lt _ _) Q E s)
/-- what stood stays, though two objects came -/
theorem stood2 {o1 o2 : Obj} {h' : Heap} {a : Addr} (ha : a = (s.heap.push o1).objs.size) (hk : ∀ b o, b ∉ [a] → ((s.heap.push o1).push o2).get? b = some o → h'.get? b = some o) {c : Addr} {o : Obj} (e : s.heap.get? c = some o) : h'.get? c = some o := by
  refine hk c o (fun hm => ?_) (Heap.get?_push_of_some _ (Heap.get?_push_of_some _ e))
  have h1 : @LT.lt Nat _ c s.heap.objs.size := Heap.lt_size e
  have h2 : @Eq Nat c (s.heap.push o1).objs.size := (List.mem_singleton.mp hm).trans ha
  rw [Heap.size_push] at h2
  omega
theorem cmp2_gt {x y : Str} {t u : Tok} (hu : A.units < cLine) : CmpOf prog w A .Gt (fun i v => (#[Value.str x t, Value.str y u] : Array Value)[i]? = some v) (fun i j => W.dataLt (.str (strAt2 x y j)) (.str (strAt2 x y i))) := fun i j vi vj s Q E hi hj h => by
  obtain ⟨k, rfl⟩ := strAt2_ok hi
  obtain ⟨l, rfl⟩ := strAt2_ok hj
  exact W.rcGt_alike _ _ A s _ _ _ _ (.str _ k) (.str _ l) rfl (by simp) (by simpa [PyData.depth] using hu) prog w E Q h
theorem min_two_texts {x y : Str} {t u : Tok} {Q : Value → Shared → Prop} (hh : A.handled = none)
    (h : ∀ h' tk k, (∀ c o, s.heap.get? c = some o → h'.get? c = some o) → Q (.str (if W.dataLt (.str y) (.str x) = true then y else x) k) { s with heap := h', toks := tk }) :
    wpAny (model prog w) A (call (.builtin "min") [.str x t, .str y u]) Q E s := by
  have hT : (s.heap.push { cls := .type "tuple", data := .seq #[.str x t, .str y u] }).IsTuple s.heap.objs.size #[.str x t, .str y u] := ⟨_, Heap.get?_push_size _ rfl, rfl, 0, rfl⟩
  have hsz : (s.heap.push { cls := .type "tuple", data := .seq #[.str x t, .str y u] }).objs.size = s.heap.objs.size + 1 := Heap.size_push ..
  have hne : s.heap.objs.size ≠ (s.heap.push { cls := .type "tuple", data := .seq #[.str x t, .str y u] }).objs.size := by rw [hsz]; omega
  refine call_min_two (wpAny_pyIter_tuple hT ⟨_, _, _, _, _, _, _, rfl, Walks.tuple (A := A.in1) hh _ _ hne _, ⟨⟨_, Heap.get?_push_size _ rfl, rfl, rfl⟩, hT.push _⟩, fun c hc => ?_, by simp, cmp2_lt (A := A.in1) (x := x) (y := y) (t := t) (u := u), fun v h' tk hP hk => ?_⟩)
  · show c < ((s.heap.push _).push _).objs.size
    simp only [List.mem_cons, List.not_mem_nil, or_false] at hc
    rw [Heap.size_push, hsz]
    rcases hc with rfl | rfl
    · rw [hsz]; exact Nat.lt_succ_self _
    · exact Nat.lt_succ_of_lt (Nat.lt_succ_self _)
  · obtain ⟨k, e⟩ := strAt2_ok hP
    rw [e]
    have hq := h h' tk k fun c o e => stood2 rfl hk e
    have e2 : strAt2 x y (argBest (fun i j => W.dataLt (.str (strAt2 x y i)) (.str (strAt2 x y j))) ((#[Value.str x t, Value.str y u] : Array Value).size - 1)) = if W.dataLt (.str y) (.str x) = true then y else x := by
      show strAt2 x y (if W.dataLt (.str y) (.str x) = true then 1 else 0) = _
      split <;> rfl
    rw [e2]
    exact hq
theorem max_two_texts {x y : Str} {t u : Tok} {Q : Value → Shared → Prop} (hh : A.handled = none) (hu : A.units + 1 < cLine)
    (h : ∀ h' tk k, (∀ c o, s.heap.get? c = some o → h'.get? c = some o) → Q (.str (if W.dataLt (.str x) (.str y) = true then y else x) k) { s with heap := h', toks := tk }) :
    wpAny (model prog w) A (call (.builtin "max") [.str x t, .str y u]) Q E s := by
  have hT : (s.heap.push { cls := .type "tuple", data := .seq #[.str x t, .str y u] }).IsTuple s.heap.objs.size #[.str x t, .str y u] := ⟨_, Heap.get?_push_size _ rfl, rfl, 0, rfl⟩
  have hsz : (s.heap.push { cls := .type "tuple", data := .seq #[.str x t, .str y u] }).objs.size = s.heap.objs.size + 1 := Heap.size_push ..
  have hne : s.heap.objs.size ≠ (s.heap.push { cls := .type "tuple", data := .seq #[.str x t, .str y u] }).objs.size := by rw [hsz]; omega
  refine call_max_two (wpAny_pyIter_tuple hT ⟨_, _, _, _, _, _, _, rfl, Walks.tuple (A := A.in1) hh _ _ hne _, ⟨⟨_, Heap.get?_push_size _ rfl, rfl, rfl⟩, hT.push _⟩, fun c hc => ?_, by simp, cmp2_gt (A := A.in1) (x := x) (y := y) (t := t) (u := u) hu, fun v h' tk hP hk => ?_⟩)
  · show c < ((s.heap.push _).push _).objs.size
    simp only [List.mem_cons, List.not_mem_nil, or_false] at hc
    rw [Heap.size_push, hsz]
    rcases hc with rfl | rfl
    · rw [hsz]; exact Nat.lt_succ_self _
    · exact Nat.lt_succ_of_lt (Nat.lt_succ_self _)
  · obtain ⟨k, e⟩ := strAt2_ok hP
    rw [e]
    have hq := h h' tk k fun c o e => stood2 rfl hk e
    have e2 : strAt2 x y (argBest (fun i j => W.dataLt (.str (strAt2 x y j)) (.str (strAt2 x y i))) ((#[Value.str x t, Value.str y u] : Array Value).size - 1)) = if W.dataLt (.str x) (.str y) = true then y else x := by
      show strAt2 x y (if W.dataLt (.str x) (.str y) = true then 1 else 0) = _
      split <;> rfl
    rw [e2]
    exact hq
end
end DP

set_option Elab.async false
set_option linter.all false
set_option maxRecDepth 100000
set_option maxHeartbeats 1000000
/-! Ev4: built-in functions. -/
namespace DP
open PySem PySem.Spec L2

section
variable {mg : G} {ρ : Rho} {os : OS} {H : Hp} {L : Addr → Prop} {K : PySem.W.Frag}
inductive RepMs (mg : G) (L : Addr → Prop) (H : Hp) : List IV → List V → Prop
  | nil : RepMs mg L H [] []
  | cons {x : IV} {xs : List IV} {v : V} {vs : List V} : RepM mg L H x v → RepMs mg L H xs vs → RepMs mg L H (x :: xs) (v :: vs)
theorem rdAll_reps (s : StOk mg ρ H os) : ∀ {vs : List PV} {xs : List V} {ys : List IV}, RepPs mg ρ os H vs xs → rdAll os vs = some ys → RepMs mg (Live ρ os) H ys xs
  | _, _, _, .nil, e => by
    simp only [rdAll] at e
    cases e
    exact .nil
  | _, _, _, .cons r t, e => by
    simp only [rdAll] at e
    obtain ⟨x, e1, e2⟩ := Option.bind_eq_some_iff.mp e
    obtain ⟨xs, e3, rfl⟩ := Option.map_eq_some_iff.mp e2
    exact .cons (rd_rep s r e1) (rdAll_reps s t e3)
theorem RepMs.one {x : IV} {vs : List V} (r : RepMs mg L H [x] vs) : ∃ v, vs = [v] ∧ RepM mg L H x v := by
  cases r with
  | cons a t =>
    cases t
    exact ⟨_, rfl, a⟩
theorem RepMs.two {x y : IV} {vs : List V} (r : RepMs mg L H [x, y] vs) : ∃ v w, vs = [v, w] ∧ RepM mg L H x v ∧ RepM mg L H y w := by
  cases r with
  | cons a t =>
    cases t with
    | cons b t =>
      cases t
      exact ⟨_, _, rfl, a, b⟩
theorem blsOf_reps : ∀ {ys : List IV} {vs : List V} {bs : List Bool}, Reps mg L H ys vs → blsOf ys = some bs → vs = bs.map V.bl
  | [], _, _, .nil, e => by
    simp only [blsOf] at e
    cases e
    rfl
  | .bl b :: ys, _, bs, .cons r t, e => by
    simp only [blsOf] at e
    obtain ⟨cs, e1, rfl⟩ := Option.map_eq_some_iff.mp e
    cases r
    rw [blsOf_reps t e1]
    rfl
  | .non :: _, _, _, _, e | .int _ :: _, _, _, _, e | .str _ :: _, _, _, _, e | .ty _ :: _, _, _, _, e | .tup _ :: _, _, _, _, e | .lst _ :: _, _, _, _, e | .dic _ _ :: _, _, _, _, e | .exn _ _ _ :: _, _, _, _, e | .glo _ :: _, _, _, _, e | .scr _ :: _, _, _, _, e => by
    simp [blsOf] at e
theorem intsOf_reps : ∀ {ys : List IV} {vs : List V} {bs : List Int}, Reps mg L H ys vs → intsOf ys = some bs → vs = bs.map V.int
  | [], _, _, .nil, e => by
    simp only [intsOf] at e
    cases e
    rfl
  | .int b :: ys, _, bs, .cons r t, e => by
    simp only [intsOf] at e
    obtain ⟨cs, e1, rfl⟩ := Option.map_eq_some_iff.mp e
    cases r
    rw [intsOf_reps t e1]
    rfl
  | .non :: _, _, _, _, e | .bl _ :: _, _, _, _, e | .str _ :: _, _, _, _, e | .ty _ :: _, _, _, _, e | .tup _ :: _, _, _, _, e | .lst _ :: _, _, _, _, e | .dic _ _ :: _, _, _, _, e | .exn _ _ _ :: _, _, _, _, e | .glo _ :: _, _, _, _, e | .scr _ :: _, _, _, _, e => by
    simp [intsOf] at e
mutual
theorem ofD_toD : ∀ {x : IV} {d : PyData}, toD x = some d → ofD d = x
  | .non, _, e => by simp only [toD] at e; cases e; rfl
  | .bl b, _, e => by simp only [toD] at e; cases e; rfl
  | .int i, _, e => by simp only [toD] at e; cases e; rfl
  | .str x, _, e => by simp only [toD] at e; cases e; rfl
  | .tup xs, _, e => by
    simp only [toD] at e
    obtain ⟨ds, e1, rfl⟩ := Option.map_eq_some_iff.mp e
    simp only [ofD]
    rw [ofDs_toDs e1]
  | .lst xs, _, e => by
    simp only [toD] at e
    obtain ⟨ds, e1, rfl⟩ := Option.map_eq_some_iff.mp e
    simp only [ofD]
    rw [ofDs_toDs e1]
  | .ty _, _, e | .dic _ _, _, e | .exn _ _ _, _, e | .glo _, _, e | .scr _, _, e => by simp [toD] at e
theorem ofDs_toDs : ∀ {xs : List IV} {ds : List PyData}, toDs xs = some ds → ofDs ds = xs
  | [], _, e => by simp only [toDs] at e; cases e; rfl
  | x :: xs, _, e => by
    simp only [toDs] at e
    obtain ⟨d, e1, e2⟩ := Option.bind_eq_some_iff.mp e
    obtain ⟨dr, e3, rfl⟩ := Option.map_eq_some_iff.mp e2
    simp only [ofDs]
    rw [ofD_toD e1, ofDs_toDs e3]
end
theorem toDs_get : ∀ {xs : List IV} {ds : List PyData} {i : Nat} {x : IV}, toDs xs = some ds → xs[i]? = some x → ∃ d, ds[i]? = some d ∧ toD x = some d
  | [], _, _, _, _, h => by simp at h
  | y :: xs, _, i, x, e, h => by
    simp only [toDs] at e
    obtain ⟨d, e1, e2⟩ := Option.bind_eq_some_iff.mp e
    obtain ⟨dr, e3, rfl⟩ := Option.map_eq_some_iff.mp e2
    cases i with
    | zero =>
      simp at h
      subst h
      exact ⟨d, rfl, e1⟩
    | succ i =>
      obtain ⟨d', a, b⟩ := toDs_get (i := i) e3 (by simpa using h)
      exact ⟨d', by simpa using a, b⟩
theorem alikeAllB_ok {ds : List PyData} (h : alikeAllB ds = true) : (∀ x ∈ ds, ∀ y ∈ ds, PySem.W.alike x y = true) ∧ (∀ x ∈ ds, x ≠ .none) ∧ ∀ x ∈ ds, SeqAt.shaped x = true := by
  unfold alikeAllB at h
  rw [List.all_eq_true] at h
  refine ⟨fun x hx y hy => ?_, fun x hx => ?_, fun x hx => ?_⟩
  · have := h x hx
    simp only [Bool.and_eq_true, List.all_eq_true] at this
    exact this.2 y hy
  · have := h x hx
    simp only [Bool.and_eq_true] at this
    rintro rfl
    exact absurd this.1.1 (by simp [nnD])
  · have := h x hx
    simp only [Bool.and_eq_true] at this
    exact this.1.2
theorem depthAll_64 : ∀ {ds : List PyData}, (∀ x ∈ ds, SeqAt.shaped x = true) → PyData.depthAll ds ≤ 64
  | [], _ => by simp [PyData.depthAll]
  | d :: ds, h => by
    have h1 := SeqAt.depth_of_shaped (h d List.mem_cons_self)
    have h2 := depthAll_64 fun x hx => h x (List.mem_cons_of_mem _ hx)
    simp only [PyData.depthAll]
    omega
end

section
variable {X : Cx} {W : WX}
def rBi (mg : G) (b : Bi) : List V → Hp → VK → Prop := fun xs H Q => ∃ ρ os ys c, StOk mg ρ H os ∧ RepMs mg (Live ρ os) H ys xs ∧ biIV b ys = some c ∧
  ∀ ρ' H', Ext ρ os H ρ' os H' → StOk mg ρ' H' os → ∀ v', Rep mg (Live ρ' os) H' c v' → Q v' H'
theorem bi_len : CallR X (.builtin "len") (rBi X.g .len) := by
  rintro pins s σ H xs us Q I r ⟨ρ, os, ys, c, hs, rm, e, k⟩
  refine call_len pins s σ H xs us Q I r ?_
  simp only [biIV] at e
  split at e
  · cases e
    obtain ⟨v, rfl, rv⟩ := rm.one
    cases rv with
    | tup h n t => exact ⟨_, _, rfl, .inr ⟨_, SqT.of h, rfl⟩, by rw [← t.length]; exact k ρ H Ext.refl hs _ (.int _)⟩
  · cases e
    obtain ⟨v, rfl, a, vs, rfl, h, t⟩ := rm.one
    exact ⟨_, _, rfl, .inl ⟨_, SqL.of h, rfl⟩, by rw [← t.length]; exact k ρ H Ext.refl hs _ (.int _)⟩
  · split at e
    · rename_i hz
      cases e
      obtain ⟨v, rfl, rv⟩ := rm.one
      cases rv
      exact ⟨_, _, rfl, ⟨szOk_le hz, rfl⟩, k ρ H Ext.refl hs _ (.int _)⟩
    · cases e
  · cases e
    obtain ⟨v, rfl, rv⟩ := rm.one
    cases rv with
    | scr h n => exact ⟨_, _, rfl, .inl ⟨_, .inl (.inr ⟨_, h⟩), by rw [List.length_map]⟩, k ρ H Ext.refl hs _ (.int _)⟩
    | scrK h => exact ⟨_, _, rfl, .inl ⟨_, .inr h, by rw [List.length_map]⟩, k ρ H Ext.refl hs _ (.int _)⟩
  · cases e
theorem bi_abs : CallR X (.builtin "abs") (rBi X.g .abs) := by
  rintro pins s σ H xs us Q I r ⟨ρ, os, ys, c, hs, rm, e, k⟩
  refine call_abs pins s σ H xs us Q I r ?_
  simp only [biIV] at e
  split at e
  · cases e
    obtain ⟨v, rfl, rv⟩ := rm.one
    cases rv
    exact ⟨_, rfl, k ρ H Ext.refl hs _ (.int _)⟩
  · cases e
theorem bi_int : CallR X (.type "int") (rBi X.g .int) := by
  rintro pins s σ H xs us Q I r ⟨ρ, os, ys, c, hs, rm, e, k⟩
  refine call_int1 pins s σ H xs us Q I r ?_
  simp only [biIV] at e
  split at e
  · cases e
    obtain ⟨v, rfl, rv⟩ := rm.one
    cases rv
    exact .inl ⟨_, rfl, k ρ H Ext.refl hs _ (.int _)⟩
  · cases e
    obtain ⟨v, rfl, rv⟩ := rm.one
    cases rv
    exact .inr ⟨_, rfl, k ρ H Ext.refl hs _ (.int _)⟩
  · cases e
theorem bi_all (hc : X.calm = true) : CallR X (.builtin "all") (rBi X.g .all) := by
  rintro pins s σ H xs us Q I r ⟨ρ, os, ys, c, hs, rm, e, k⟩
  refine cr_all hc pins s σ H xs us Q I r ?_
  simp only [biIV] at e
  split at e
  · obtain ⟨bs, e1, rfl⟩ := Option.map_eq_some_iff.mp e
    obtain ⟨v, rfl, a, vs, rfl, h, t⟩ := rm.one
    rw [blsOf_reps t e1] at h
    exact ⟨a, bs, rfl, SqL.of h, k ρ H Ext.refl hs _ (.bl _)⟩
  · cases e
theorem bi_any (hc : X.calm = true) : CallR X (.builtin "any") (rBi X.g .any) := by
  rintro pins s σ H xs us Q I r ⟨ρ, os, ys, c, hs, rm, e, k⟩
  refine cr_any hc pins s σ H xs us Q I r ?_
  simp only [biIV] at e
  split at e
  · obtain ⟨bs, e1, rfl⟩ := Option.map_eq_some_iff.mp e
    obtain ⟨v, rfl, a, vs, rfl, h, t⟩ := rm.one
    rw [blsOf_reps t e1] at h
    exact ⟨a, bs, rfl, SqL.of h, k ρ H Ext.refl hs _ (.bl _)⟩
  · cases e
theorem bi_sum (hc : X.calm = true) : CallR X (.builtin "sum") (rBi X.g .sum) := by
  rintro pins s σ H xs us Q I r ⟨ρ, os, ys, c, hs, rm, e, k⟩
  refine cr_sum hc pins s σ H xs us Q I r ?_
  simp only [biIV] at e
  split at e
  · obtain ⟨bs, e1, rfl⟩ := Option.map_eq_some_iff.mp e
    obtain ⟨v, rfl, a, vs, rfl, h, t⟩ := rm.one
    rw [intsOf_reps t e1] at h
    exact ⟨a, bs, rfl, SqL.of h, k ρ H Ext.refl hs _ (.int _)⟩
  · cases e
theorem bi_tuple : CallR X (.type "tuple") (rBi X.g .tuple) := by
  rintro pins s σ H xs us Q I r ⟨ρ, os, ys, c, hs, rm, e, k⟩
  refine call_tuple_of pins s σ H xs us Q I r ?_
  simp only [biIV] at e
  split at e
  · cases e
    obtain ⟨v, rfl, a, vs, rfl, h, t⟩ := rm.one
    exact ⟨_, _, rfl, .inl ⟨SqL.of h, fun p hp => k ρ _ (ext_fresh hp) (hs.fresh hp) _ (new_tup hs hp t)⟩⟩
  · cases e
    obtain ⟨v, rfl, rv⟩ := rm.one
    cases rv with
    | tup h n t => exact ⟨_, _, rfl, .inr ⟨SqT.of h, k ρ H Ext.refl hs _ (.tup h n t)⟩⟩
  · cases e
/-- the item that is told is the datum's -/
theorem pick_rep {pins : List (Addr × Obj)} {s : Shared} {σ : L2.St} {H : Hp} {mg : G} {L : Addr → Prop} {ys : List IV} {vs : List V} {its : List Value} {ds : List PyData} {i : Nat} {v : Value} {h' : Heap} {m : PyData} {bs : List Addr}
    (I : Inv X pins σ H s) (t : Reps mg L H ys vs) (rv : Vals vs its) (ed : toDs ys = some ds) (hk : ∀ b o, s.heap.get? b = some o → h'.get? b = some o) (hv : its[i]? = some v) (hm : Reads h' v m bs) (hmm : m.canLay0 = true) (hds : ∀ d ∈ ds, d.canLay0 = true) :
    ∃ x, RelV x v ∧ Rep mg L H (ofD m) x := by
  have hi : i < its.length := (List.getElem?_eq_some_iff.mp hv).1
  have hi' : i < vs.length := by rw [rv.length]; exact hi
  obtain ⟨u, hu, ru⟩ := rv.get (i := i) (x := vs[i]) (by simp [hi'])
  rw [hv] at hu
  cases hu
  obtain ⟨x, hx, rx⟩ := t.got (i := i) (v := vs[i]) (by simp [hi'])
  obtain ⟨d, e1, e2⟩ := toDs_get ed hx
  obtain ⟨as, r1⟩ := Dp.reads I d _ v (rep_dp (K := X.K) x d _ rx e2) ru
  have r2 : Reads h' v d as := PyProof.Rows.Reads.keeps hk r1
  have q1 := SeqAt.readOf_eq (hds d (List.mem_of_getElem? e1)) r2
  have q2 := SeqAt.readOf_eq hmm hm
  have q3 : d = m := q1.symm.trans q2
  subst q3
  exact ⟨vs[i], ru, by rw [ofD_toD e2]; exact rx⟩
theorem canLay_all {ds : List PyData} (h : ∀ x ∈ ds, SeqAt.shaped x = true) : ∀ d ∈ ds, d.canLay0 = true := fun d hd => SeqAt.canLay_of_shaped (h d hd)
theorem minD_mem (x : PyData) : ∀ xs : List PyData, PySem.W.minD x xs ∈ x :: xs := by
  have : ∀ (xs : List PyData) (x : PyData), xs.foldl (fun a y => if PySem.W.dataLt y a then y else a) x ∈ x :: xs := by
    intro xs
    induction xs with
    | nil => intro x; simp
    | cons y ys ih =>
      intro x
      rw [List.foldl_cons]
      split
      · have := ih y
        exact List.mem_cons_of_mem _ this
      · have := ih x
        rcases List.mem_cons.mp this with h | h
        · rw [h]; exact List.mem_cons_self
        · exact List.mem_cons_of_mem _ (List.mem_cons_of_mem _ h)
  intro xs
  exact this xs x
theorem maxD_mem (x : PyData) : ∀ xs : List PyData, PySem.W.maxD x xs ∈ x :: xs := by
  have : ∀ (xs : List PyData) (x : PyData), xs.foldl (fun a y => if PySem.W.dataLt a y then y else a) x ∈ x :: xs := by
    intro xs
    induction xs with
    | nil => intro x; simp
    | cons y ys ih =>
      intro x
      rw [List.foldl_cons]
      split
      · have := ih y
        exact List.mem_cons_of_mem _ this
      · have := ih x
        rcases List.mem_cons.mp this with h | h
        · rw [h]; exact List.mem_cons_self
        · exact List.mem_cons_of_mem _ (List.mem_cons_of_mem _ h)
  intro xs
  exact this xs x
theorem bi_min (hc : X.calm = true) (hu : X.A.units + 65 < cLine) : CallR X (.builtin "min") (rBi X.g .min) := by
  rintro pins s σ H xs us Q I r ⟨ρ, os, ys, c, hs, rm, e, k⟩
  simp only [biIV] at e
  split at e
  · rename_i zs
    unfold minIV at e
    obtain ⟨ds, e1, e2⟩ := Option.bind_eq_some_iff.mp e
    cases ds with
    | nil => cases e2
    | cons d dr =>
      simp only at e2
      split at e2
      · rename_i al
        cases e2
        obtain ⟨al1, al2, al3⟩ := alikeAllB_ok al
        obtain ⟨v, rfl, a, vs, rfl, h, t⟩ := rm.one
        obtain ⟨its, rv, hl, _⟩ := I.list (SqL.of h)
        obtain ⟨as, ra⟩ := Dp.readsAll I _ _ its (reps_dp (K := X.K) zs _ vs t e1) rv
        rw [Vals.ref1 r]
        have hd := depthAll_64 al3
        refine PySem.W.min_list_data (I.ok.hd hc) hl.isList (by simpa using ra) ⟨al1, al2⟩ (by omega) fun i v h' tk bs hv hm hk => ?_
        obtain ⟨x, rx, rp⟩ := pick_rep I t rv e1 hk (by simpa using hv) hm (canLay_all al3 _ (minD_mem d dr)) (canLay_all al3)
        exact ⟨x, H, I.kept hk, rx, k ρ H Ext.refl hs _ rp⟩
      · cases e2
  · cases e
    obtain ⟨v, w, rfl, r1, r2⟩ := rm.two
    cases r1
    cases r2
    exact call_min2 hc pins s σ H _ us Q I r ⟨_, _, rfl, k ρ H Ext.refl hs _ (.int _)⟩
  · cases e
    obtain ⟨v, w, rfl, r1, r2⟩ := rm.two
    cases r1
    cases r2
    rcases r with _ | ⟨⟨tu, rfl⟩, r'⟩
    rcases r' with _ | ⟨⟨tu', rfl⟩, r''⟩
    rcases r'' with _ | _
    exact min_two_texts (I.ok.hd hc) fun h' tk k' hk => ⟨.str _, H, I.kept hk, ⟨k', rfl⟩, k ρ H Ext.refl hs _ (.str _)⟩
  · cases e
theorem bi_max (hc : X.calm = true) (hu : X.A.units + 65 < cLine) : CallR X (.builtin "max") (rBi X.g .max) := by
  rintro pins s σ H xs us Q I r ⟨ρ, os, ys, c, hs, rm, e, k⟩
  simp only [biIV] at e
  split at e
  · rename_i zs
    unfold maxIV at e
    obtain ⟨ds, e1, e2⟩ := Option.bind_eq_some_iff.mp e
    cases ds with
    | nil => cases e2
    | cons d dr =>
      simp only at e2
      split at e2
      · rename_i al
        cases e2
        obtain ⟨al1, al2, al3⟩ := alikeAllB_ok al
        obtain ⟨v, rfl, a, vs, rfl, h, t⟩ := rm.one
        obtain ⟨its, rv, hl, _⟩ := I.list (SqL.of h)
        obtain ⟨as, ra⟩ := Dp.readsAll I _ _ its (reps_dp (K := X.K) zs _ vs t e1) rv
        rw [Vals.ref1 r]
        have hd := depthAll_64 al3
        refine PySem.W.max_list_data (I.ok.hd hc) hl.isList (by simpa using ra) ⟨al1, al2⟩ (by omega) fun i v h' tk bs hv hm hk => ?_
        obtain ⟨x, rx, rp⟩ := pick_rep I t rv e1 hk (by simpa using hv) hm (canLay_all al3 _ (maxD_mem d dr)) (canLay_all al3)
        exact ⟨x, H, I.kept hk, rx, k ρ H Ext.refl hs _ rp⟩
      · cases e2
  · cases e
    obtain ⟨v, w, rfl, r1, r2⟩ := rm.two
    cases r1
    cases r2
    exact call_max2 hc pins s σ H _ us Q I r ⟨_, _, rfl, k ρ H Ext.refl hs _ (.int _)⟩
  · cases e
    obtain ⟨v, w, rfl, r1, r2⟩ := rm.two
    cases r1
    cases r2
    rcases r with _ | ⟨⟨tu, rfl⟩, r'⟩
    rcases r' with _ | ⟨⟨tu', rfl⟩, r''⟩
    rcases r'' with _ | _
    exact max_two_texts (I.ok.hd hc) (by omega) fun h' tk k' hk => ⟨.str _, H, I.kept hk, ⟨k', rfl⟩, k ρ H Ext.refl hs _ (.str _)⟩
  · cases e
/-! ### isinstance -/
theorem tyIV_ok {mg : G} {L : Addr → Prop} {H : Hp} {x : IV} {v : V} {t : String} (r : RepM mg L H x v) (e : tyIV x = some t) : TyX X.K H v (.type t) := by
  cases x with
  | non => cases r; cases e; exact .base .non
  | bl b => cases r; cases e; exact .base (.bl b)
  | int i => cases r; cases e; exact .base (.int i)
  | str z => cases r; cases e; exact .base (.str z)
  | tup xs =>
    cases e
    cases r with
    | tup h n t => exact .base (.tup h)
  | lst xs =>
    cases e
    obtain ⟨a, vs, rfl, h, t⟩ := r
    exact .base (.lst h)
  | dic ks ws =>
    cases e
    obtain ⟨a, kvs, rfl, h, _⟩ := r
    exact .base (.dK h)
  | ty n => cases e
  | exn _ _ _ => cases e
  | glo _ => cases e
  | scr _ => cases e
def tyNames : List String := ["NoneType", "bool", "int", "str", "tuple", "list", "dict"]
theorem tyIV_mem {x : IV} {t : String} (e : tyIV x = some t) : t ∈ tyNames := by
  cases x <;> first | (cases e; done) | (cases e; decide)
theorem kitAll : ∀ t ∈ tyNames, ∀ n ∈ ["int", "bool", "str", "tuple", "list", "dict"], kitB t n = some (t == n || (t == "bool" && n == "int")) := by decide +kernel
theorem bi_isi : CallR X (.builtin "isinstance") (rBi X.g .isi) := by
  rintro pins s σ H xs us Q I r ⟨ρ, os, ys, c, hs, rm, e, k⟩
  refine call_isi pins s σ H xs us Q I r ?_
  simp only [biIV] at e
  split at e
  · rename_i x c
    obtain ⟨b, e1, rfl⟩ := Option.map_eq_some_iff.mp e
    obtain ⟨v, w, rfl, r1, r2⟩ := rm.two
    unfold isiIV at e1
    split at e1
    · rename_i n
      obtain ⟨t, e2, e3⟩ := Option.bind_eq_some_iff.mp e1
      split at e3
      · rename_i hn
        cases e3
        cases r2
        refine ⟨v, _, _, _, _, rfl, .ty n, tyIV_ok r1 e2, ?_, k ρ H Ext.refl hs _ (.bl _)⟩
        exact kit_ty (kitAll t (tyIV_mem e2) n (by simpa using hn))
      · cases e3
    · cases e1
  · cases e
end
end DP

set_option Elab.async false
set_option linter.all false
set_option maxRecDepth 100000
set_option maxHeartbeats 1000000
/-! Ev5: repr, sorted, list; calls of built-in functions. -/
namespace DP
open PySem PySem.Spec L2

mutual
theorem shown_cost : ∀ d : PyData, d.canLay0 = true → d.showable = true → d.shown.length ≤ cost d
  | .none, _, _ => by decide
  | .bool b, _, _ => by cases b <;> decide
  | .int i, _, h => by
    have h1 : i.natAbs.log2 < 1920 := by simpa [PyData.showable] using h
    have e := int_text_length_le (k := 1920) (by decide) h1
    show (Str.ofString (toString i)).length ≤ 1930
    rw [ofString_length]
    omega
  | .str x, h, _ => by
    have h1 : PyData.strOk x = true := by simpa only [PyData.canLay0] using h
    have h2 : ∀ c ∈ x.cps.toList, c < 16 ^ 8 := by
      intro c hc
      have := Array.all_eq_true_iff_forall_mem.mp h1 c (by simpa using hc)
      have h3 : c < 0x110000 := by simpa using this
      omega
    have e := StrLaws.reprText_len x h2
    simp only [PyData.shown, cost]
    omega
  | .list xs, h, h' => by
    have h1 := shown_costs xs (by simpa only [PyData.canLay0] using h) (by simpa only [PyData.showable] using h')
    have h2 := listText_len_le (PyData.shownAll xs)
    simp only [PyData.shown, cost]
    omega
  | .tuple xs, h, h' => by
    have h1 := shown_costs xs (by simpa only [PyData.canLay0] using h) (by simpa only [PyData.showable] using h')
    have h2 := tupleText_len_le (PyData.shownAll xs)
    simp only [PyData.shown, cost]
    omega
  | .dict _, h, _ => by simp [PyData.canLay0] at h
theorem shown_costs : ∀ xs : List PyData, PyData.canLayAll0 xs = true → PyData.showableAll xs = true → ((PyData.shownAll xs).map (·.length)).sum + 2 * (PyData.shownAll xs).length ≤ costs xs
  | [], _, _ => by simp [PyData.shownAll, costs]
  | x :: xs, h, h' => by
    have h1 : x.canLay0 = true ∧ PyData.canLayAll0 xs = true := by simpa [PyData.canLayAll0] using h
    have h2 : x.showable = true ∧ PyData.showableAll xs = true := by simpa [PyData.showableAll] using h'
    have e1 := shown_cost x h1.1 h2.1
    have e2 := shown_costs xs h1.2 h2.2
    simp only [PyData.shownAll, costs, List.map_cons, List.sum_cons, List.length_cons]
    omega
end

section
variable {X : Cx} {W : WX}
theorem bi_repr (hg : X.A.guards = some []) (hu : X.A.units + 66 < cLine) : CallR X (.builtin "repr") (rBi X.g .repr) := by
  rintro pins s σ H xs us Q I r ⟨ρ, os, ys, c, hs, rm, e, k⟩
  simp only [biIV] at e
  split at e
  · rename_i x
    unfold reprIV at e
    obtain ⟨d, e1, e2⟩ := Option.bind_eq_some_iff.mp e
    split at e2
    · rename_i hz
      cases e2
      simp only [Bool.and_eq_true] at hz
      obtain ⟨⟨h1, h2⟩, h3⟩ := hz
      have hlen : d.shown.length ≤ sizeLine := Nat.le_trans (shown_cost d (SeqAt.canLay_of_shaped h2) h1) (szOk_le h3)
      have hdp := SeqAt.depth_of_shaped h2
      obtain ⟨v, rfl, rv⟩ := rm.one
      obtain ⟨u, rfl, ru⟩ := vals1 r
      have hd : Dp X.K H v d := repM_dp rv e1
      have fin : ∀ (h' : Heap) (t : Tok) (tk : Nat), (∀ b o, s.heap.get? b = some o → h'.get? b = some o) → EP X pins σ Q (.str d.shown t) { s with heap := h', toks := tk } :=
        fun h' t tk hk => ⟨.str d.shown, H, I.kept hk, ⟨t, rfl⟩, k ρ H Ext.refl hs _ (.str _)⟩
      obtain ⟨as, rr⟩ := Dp.reads I d v u hd ru
      cases hd with
      | non =>
        cases ru
        exact P.repr_of_none (fin s.heap _ _ fun _ _ q => q)
      | bl b =>
        cases ru
        exact P.repr_of_bool (fin s.heap _ _ fun _ _ q => q)
      | int i =>
        obtain ⟨t, rfl⟩ := ru
        exact P.repr_of_int (by simpa [PyData.showable] using h1) (fin s.heap _ _ fun _ _ q => q)
      | str z =>
        obtain ⟨t, rfl⟩ := ru
        exact P.repr_of_str (fin s.heap _ _ fun _ _ q => q) hlen
      | lst h t =>
        cases ru
        exact repr_of_reads' rr h1 (PyData.noDict_hsm (PyData.hasDict_of_canLay _ (SeqAt.canLay_of_shaped h2))) hg (by omega) (fun _ _ q => q) (fun h' u tk hk => fin h' u tk hk) hlen
      | tup h t =>
        cases ru
        exact repr_of_reads' rr h1 (PyData.noDict_hsm (PyData.hasDict_of_canLay _ (SeqAt.canLay_of_shaped h2))) hg (by omega) (fun _ _ q => q) (fun h' u tk hk => fin h' u tk hk) hlen
    · cases e2
  · cases e

/-! ### sorted -/
theorem each_of_vals {mg : G} {L : Addr → Prop} {H : Hp} {pins : List (Addr × Obj)} {s : Shared} {σ : L2.St} (I : Inv X pins σ H s) : ∀ {ys : List IV} {vs : List V} {its : List Value} {ds : List PyData}, Reps mg L H ys vs → Vals vs its → toDs ys = some ds →
    PySem.W.EachIs (fun v d => ∃ x, RelV x v ∧ Rep mg L H (ofD d) x) its ds ∧ PySem.W.EachIs (fun v d => ∃ as, Reads s.heap v (id d) as) its ds
  | [], _, _, _, .nil, .nil, e => by
    simp only [toDs] at e
    cases e
    exact ⟨.nil, .nil⟩
  | y :: ys, _, _, _, .cons r t, .cons rv tv, e => by
    simp only [toDs] at e
    obtain ⟨d, e1, e2⟩ := Option.bind_eq_some_iff.mp e
    obtain ⟨dr, e3, rfl⟩ := Option.map_eq_some_iff.mp e2
    obtain ⟨h1, h2⟩ := each_of_vals I t tv e3
    obtain ⟨as, ra⟩ := Dp.reads I d _ _ (rep_dp (K := X.K) y d _ r e1) rv
    exact ⟨.cons ⟨_, rv, by rw [ofD_toD e1]; exact r⟩ h1, .cons ⟨as, ra⟩ h2⟩
theorem vals_of_each {mg : G} {L : Addr → Prop} {H : Hp} : ∀ {its : List Value} {ds : List PyData}, PySem.W.EachIs (fun v d => ∃ x, RelV x v ∧ Rep mg L H (ofD d) x) its ds → ∃ vs, Vals vs its ∧ Reps mg L H (ofDs ds) vs
  | _, _, .nil => ⟨[], .nil, by simp only [ofDs]; exact .nil⟩
  | _, _, .cons ⟨x, h1, h2⟩ t => by
    obtain ⟨vs, a, b⟩ := vals_of_each t
    exact ⟨x :: vs, .cons h1 a, by simp only [ofDs]; exact .cons h2 b⟩
theorem sortable_ok {ds : List PyData} (h : sortableB ds = true) (hn : ∀ x ∈ ds, x ≠ .none) : PySem.W.Sortable (ds.map id) := by
  rw [List.map_id]
  rcases Bool.or_eq_true_iff.mp h with h | h
  · refine .inl fun d hd => ?_
    have := List.all_eq_true.mp h d hd
    cases d with
    | tuple xs =>
      cases xs with
      | nil => simp [isTupNe] at this
      | cons x r => exact ⟨x, r, rfl⟩
    | _ => simp [isTupNe] at this
  · refine .inr fun d hd => ⟨hn d hd, fun xs e => ?_⟩
    have := List.all_eq_true.mp h d hd
    subst e
    simp [isTup] at this
def rSrt (mg : G) : List V → Hp → VK → Prop := fun xs H Q => ∃ ρ os ys c, StOk mg ρ H os ∧ RepMs mg (Live ρ os) H [.lst ys] xs ∧ sortIV ys = some c ∧
  ∀ p vs, H p = none → Reps mg (Live ρ os) H c vs → Q (.ref p) (upd H p (.lst vs))
theorem bi_srt (hu : X.A.units + 70 < cLine) : CallR X (.builtin "sorted") (rSrt X.g) := by
  rintro pins s σ H xs us Q I r ⟨ρ, os, ys, c, hs, rm, e, k⟩
  unfold sortIV at e
  obtain ⟨ds, e1, e2⟩ := Option.bind_eq_some_iff.mp e
  split at e2
  · rename_i al
    cases e2
    simp only [Bool.and_eq_true] at al
    obtain ⟨⟨al, hz⟩, hso⟩ := al
    obtain ⟨al1, al2, al3⟩ := alikeAllB_ok al
    obtain ⟨v, rfl, a, vs, rfl, h, t⟩ := rm.one
    obtain ⟨its, rv, hl, _⟩ := I.list (SqL.of h)
    rw [Vals.ref1 r]
    obtain ⟨E1, E2⟩ := each_of_vals I t rv e1
    refine PySem.W.sorted_data (enc := id) hl.isList E1 E2 (by rw [List.map_id]; exact fun d hd d' hd' => al1 d hd d' hd') (sortable_ok hso al2) (szOk_le hz) (fun b hb => ?_) fun out hlen hout => ?_
    · have := SeqAt.depth_of_shaped (al3 b hb)
      show X.A.units + 2 + b.depth < cLine
      omega
    · obtain ⟨vs', v1, v2⟩ := vals_of_each hout
      obtain ⟨ep, he'⟩ := PyProof.Rows.sortedAll_at s.heap its out.toArray
      have hl2 : vs'.length ≤ sizeLine := by
        rw [v1.length, hlen]
        exact szOk_le hz
      exact ⟨.ref _, upd H (s.heap.objs.size + 1) (.lst vs'), I.laid (t' := s.toks) (fun _ _ => PyProof.Rows.sortedAll_old) (Nat.le_succ _) ⟨hl2, out, ep, v1, by simpa using he'⟩, rfl, k _ vs' (I.hok.fresh (Nat.le_succ _)) v2⟩
  · cases e2
def rLsO (mg : G) : List V → Hp → VK → Prop := fun xs H Q => ∃ ρ os y c, StOk mg ρ H os ∧ RepMs mg (Live ρ os) H [y] xs ∧ seqIV y = some c ∧
  ∀ p vs, H p = none → Reps mg (Live ρ os) H c vs → Q (.ref p) (upd H p (.lst vs))
theorem bi_lso : CallR X (.type "list") (rLsO X.g) := by
  rintro pins s σ H xs us Q I r ⟨ρ, os, y, c, hs, rm, e, k⟩
  refine call_list_of pins s σ H xs us Q I r ?_
  obtain ⟨v, rfl, rv⟩ := rm.one
  unfold seqIV at e
  split at e
  · cases e
    cases rv with
    | tup h n t => exact ⟨_, _, rfl, .inr (SqT.of h), fun p hp => k p _ hp t⟩
  · cases e
    obtain ⟨a, vs, rfl, h, t⟩ := rv
    exact ⟨_, _, rfl, .inl (SqL.of h), fun p hp => k p _ hp t⟩
  · cases e

/-! ### the calls -/
variable {x : Str} {p pos : Pos} {e : Expr} {es : List Expr} {dp : Env → OS → Res (List PV)} {da : Env → OS → Res PV}
def biF (b : Bi) (vs : List PV) (os : OS) : Res PV := .lift (((rdAll os vs).bind fun xs => biIV b xs).map .iv) os
theorem bi_imp {mg : G} {b : Bi} {σ : L2.St} {H : Hp} {Q : VK} (h : rdE mg W (fun env os => (dp env os).bind fun vs os1 => biF b vs os1) σ H Q) : tCB (rBi mg b) (rdP mg W dp) σ H Q := by
  obtain ⟨ρ, env, os, hs, he, g⟩ := h
  refine ⟨ρ, env, os, hs, he, g.bind.imp fun vs ρ1 os1 H1 e1 s1 k vs' rx => ?_⟩
  obtain ⟨v, e, k2⟩ := k.lift
  obtain ⟨c, e1, rfl⟩ := Option.map_eq_some_iff.mp e
  obtain ⟨ys, e2, e3⟩ := Option.bind_eq_some_iff.mp e1
  exact ⟨ρ1, os1, ys, c, s1, rdAll_reps s1 rx e2, e3, k2⟩
theorem sd_biB {b : Bi} {id : String} (hc : CallR X (.builtin id) (rBi X.g b)) (hg : Gl X x) (hm : X.mg x = none) (hv : bootBuiltins x = some (.builtin id)) (hn : x ≠ "__name__") (hdb : (x == ("__debug__" : Str)) = false)
    (h1 : notStar e = true) (h2 : es.all notStar = true) (ha : PA X (e :: es) (rdP X.g W dp)) : PE X (.Call (.Name x p) (e :: es) [] pos) (rdE X.g W (fun env os => (dp env os).bind fun vs os1 => biF b vs os1)) :=
  PE.imp (pe_callB hc hg hm hv ha hn hdb (star_plain h1 _) (star_all h2)) fun _ _ _ => bi_imp
theorem sd_biT {b : Bi} {T : String} (hc : CallR X (.type T) (rBi X.g b)) (hg : Gl X x) (hm : X.mg x = none) (hv : bootBuiltins x = some (.type T)) (hn : x ≠ "__name__") (hdb : (x == ("__debug__" : Str)) = false)
    (h1 : notStar e = true) (h2 : es.all notStar = true) (ha : PA X (e :: es) (rdP X.g W dp)) : PE X (.Call (.Name x p) (e :: es) [] pos) (rdE X.g W (fun env os => (dp env os).bind fun vs os1 => biF b vs os1)) :=
  PE.imp (pe_callTy hc hg hm hv ha hn hdb (star_plain h1 _) (star_all h2)) fun _ _ _ => bi_imp
/-- list(e), sorted(e) -/
theorem one_imp {mg : G} {f : PV → OS → Res PV} {r : List V → Hp → VK → Prop}
    (h : ∀ σ ρ os H x x' Q, StOk mg ρ H os → RepP mg ρ os H x x' → Gives mg W σ ρ os H (f x os) (fun v ρ' os' H' => ∀ v', RepP mg ρ' os' H' v v' → Q v' H') → r [x'] H Q) :
    ∀ σ H Q, rdE mg W (fun env os => (da env os).bind fun x os1 => f x os1) σ H Q → tCB r (tCons (rdE mg W da) tNil) σ H Q := by
  rintro σ H Q ⟨ρ, env, os, hs, he, g⟩
  refine ⟨ρ, env, os, hs, he, g.bind.imp fun x ρ1 os1 H1 e1 s1 k x' rx => ?_⟩
  exact h σ ρ1 os1 H1 x x' Q s1 rx k
def lsoF (m : Bool) (x : PV) (os : OS) : Res PV := (match (rd os x).bind seqIV with
    | some xs => mkList m xs os
    | none => .bad)
def srtF (m : Bool) (x : PV) (os : OS) : Res PV := (match rd os x with
    | some (.lst xs) => (match sortIV xs with
      | some ys => mkList m ys os
      | none => .bad)
    | _ => .bad)
theorem sd_lso {m : Bool} (hg : Gl X "list") (hm : X.mg "list" = none) (h1 : notStar e = true) (ha : PE X e (rdE X.g W da)) : PE X (.Call (.Name "list" p) [e] [] pos) (rdE X.g W (fun env os => (da env os).bind fun x os1 => lsoF m x os1)) := by
  refine PE.imp (pe_callTy bi_lso hg hm (by decide +kernel) (pa_cons ha pa_nil (star_plain h1 _)) (by decide) (by decide) (star_plain h1 _) rfl) (one_imp fun σ ρ os H x x' Q s rx k => ?_)
  unfold lsoF at k
  split at k
  · rename_i xs e
    obtain ⟨y, e1, e2⟩ := Option.bind_eq_some_iff.mp e
    exact ⟨ρ, os, y, xs, s, .cons (rd_rep s rx e1) .nil, e2, fun p vs hp rv => mk_gives s rv k hp⟩
  · exact False.elim k
theorem sd_srt {m : Bool} (hu : X.A.units + 70 < cLine) (hg : Gl X "sorted") (hm : X.mg "sorted" = none) (h1 : notStar e = true) (ha : PE X e (rdE X.g W da)) : PE X (.Call (.Name "sorted" p) [e] [] pos) (rdE X.g W (fun env os => (da env os).bind fun x os1 => srtF m x os1)) := by
  refine PE.imp (pe_callB (bi_srt hu) hg hm (by decide +kernel) (pa_cons ha pa_nil (star_plain h1 _)) (by decide) (by decide) (star_plain h1 _) rfl) (one_imp fun σ ρ os H x x' Q s rx k => ?_)
  unfold srtF at k
  split at k
  · rename_i xs e
    split at k
    · rename_i ys e2
      exact ⟨ρ, os, xs, ys, s, .cons (rd_rep s rx e) .nil, e2, fun p vs hp rv => mk_gives s rv k hp⟩
    · exact False.elim k
  · exact False.elim k
end
end DP

set_option Elab.async false
set_option linter.all false
set_option maxRecDepth 100000
set_option maxHeartbeats 1000000
/-! Ev6: lists that change; reversed copies. -/
namespace DP
open PySem PySem.Spec L2

section
variable {mg : G} {ρ : Rho} {os : OS} {H : Hp} {W : WX}
theorem write_lst (s : StOk mg ρ H os) {k : Nat} {p : Addr × List Addr} {xs xs' : List IV} {vs' : List V} (hp : ρ.l[k]? = some p) (ho : os[k]? = some (.lst xs)) (r : Reps mg (Live ρ os) H xs' vs') :
    Ext ρ os H ρ (os.set k (.lst xs')) (upd H p.1 (.lst vs')) ∧ StOk mg ρ (upd H p.1 (.lst vs')) (os.set k (.lst xs')) := by
  have n : OB.lst xs ≠ .dead := fun z => nomatch z
  have n' : OB.lst xs' ≠ .dead := fun z => nomatch z
  obtain ⟨e2, _⟩ := s.obj k p _ hp ho
  have hH : ∀ b, b ∉ p.1 :: p.2 → upd H p.1 (.lst vs') b = H b := fun b hb => upd_ne fun z => hb (by rw [z]; exact List.mem_cons_self)
  have e := ext_write (o' := .lst xs') hp ho n n' hH
  refine ⟨e, s.write hp ho n n' hH (fun b hb => ?_) ⟨e2, vs', upd_same, ?_⟩⟩
  · rw [e2] at hb
    simp at hb
    rw [hb, upd_same]
    simp
  · have q := r.kp e.kp
    rw [live_set_eq ho n n'] at q
    exact q
theorem isL_at (s : StOk mg ρ H os) {x : PV} {v : V} (r : RepP mg ρ os H x v) (h : isL os x = true) : ∃ k p xs vs, x = .ref k ∧ ρ.l[k]? = some p ∧ v = .ref p.1 ∧ os[k]? = some (.lst xs) ∧ H p.1 = some (.lst vs) ∧ Reps mg (Live ρ os) H xs vs := by
  cases x with
  | iv x => simp [isL] at h
  | ref k =>
    obtain ⟨p, hp, rfl⟩ := r
    simp only [isL] at h
    split at h
    · rename_i xs e
      obtain ⟨_, vs, h1, h2⟩ := s.obj k p _ hp e
      exact ⟨k, p, xs, vs, rfl, hp, rfl, e, h1, h2⟩
    · cases h
end
section
variable {X : Cx} {W : WX} {a b e : Expr} {es : List Expr} {da db : Env → OS → Res PV} {apos pos : Pos}
/-- what a method's receiver may not be -/
def notSup : Expr → Bool
  | .Call (.Name x _) _ _ _ => !(x == ("super" : Str))
  | _ => true
theorem base_plain {env : PySem.Env} {f : Str} {whole : Sem Value} (h : notSup a = true) : attributeBase a f env whole = whole := by
  unfold attributeBase
  split
  · rename_i id _ _
    have h1 : (id == ("super" : Str)) = false := by simpa [notSup] using h
    have h2 : (id != ("super" : Str)) = true := by simp [bne, h1]
    simp only [h2, Bool.true_or, if_true]
  · rfl
theorem few_one {env : PySem.Env} (h1 : notStar e = true) : ((PySem.backTo pos (starEach (e :: []) env)).all (fun x => !x.1) && (backToKw pos (keywordEach [] env)).all (fun x => x.1.isSome)
      && decide ((e :: []).length + ([] : List Keyword).length + (if ([] : List Keyword).isEmpty then 0 else 1) < 30)) = true := by
  rw [star_plain h1]
  rfl
theorem sd_app (h1 : notStar e = true) (h2 : notSup a = true) (hl : (apos.endLine == pos.line) = true) (ha : PE X a (rdE X.g W da)) (hb : PE X e (rdE X.g W db)) :
    PE X (.Call (.Attribute a "append" apos) [e] [] pos) (rdE X.g W (fun env os => (da env os).bind fun x os1 => if isL os1 x then (db env os1).bind fun y os2 => appF x y os2 else .bad)) := by
  refine PE.imp (pe_bm PySem.F.plainAttrs_list PySem.F.slot_list_append PySem.F.type_list_append mt_append ha (pa_cons hb pa_nil (star_plain h1 _)) (base_plain h2) (few_one h1) hl (star_plain h1 _) rfl) ?_
  rintro σ H Q ⟨ρ, env, os, hs, he, g⟩
  refine ⟨ρ, env, os, hs, he, g.bind.imp fun x ρ1 os1 H1 e1 s1 k x' rx => ?_⟩
  split at k
  · rename_i hL
    obtain ⟨i, p, xs, vs, rfl, hp, rfl, ho, h3, h4⟩ := isL_at s1 rx hL
    refine ⟨.inl ⟨rfl, vs, SqL.of h3⟩, ρ1, env, os1, s1, he.ext e1, Gives.imp (Gives.bind k) fun y ρ2 os2 H2 e2 s2 k2 y' ry => ?_⟩
    unfold appF at k2
    split at k2
    · rename_i i' v' ei
      cases ei
      split at k2
      · rename_i xs2 ho2
        split at k2
        · rename_i hz
          have hp2 := e2.at hp
          obtain ⟨_, vs2, h5, h6⟩ := s2.obj _ _ _ hp2 ho2
          have r2 : Reps X.g (Live ρ2 os2) H2 (xs2 ++ [v']) (vs2 ++ [y']) := h6.append (.cons ry .nil)
          obtain ⟨e3, s3⟩ := write_lst s2 hp2 ho2 r2
          exact ⟨_, vs2, y', rfl, rfl, h5, by have := szOk_le hz; rw [h6.length] at this; omega, k2 ρ2 _ e3 s3 _ .non⟩
        · exact False.elim k2
      · exact False.elim k2
    · exact False.elim k2
  · exact False.elim k
theorem sd_ext (h1 : notStar e = true) (h2 : notSup a = true) (hl : (apos.endLine == pos.line) = true) (ha : PE X a (rdE X.g W da)) (hb : PE X e (rdE X.g W db)) :
    PE X (.Call (.Attribute a "extend" apos) [e] [] pos) (rdE X.g W (fun env os => (da env os).bind fun x os1 => if isL os1 x then (db env os1).bind fun y os2 => extF x y os2 else .bad)) := by
  refine PE.imp (pe_bm PySem.F.plainAttrs_list PySem.F.slot_list_extend PySem.F.type_list_extend mt_extend ha (pa_cons hb pa_nil (star_plain h1 _)) (base_plain h2) (few_one h1) hl (star_plain h1 _) rfl) ?_
  rintro σ H Q ⟨ρ, env, os, hs, he, g⟩
  refine ⟨ρ, env, os, hs, he, g.bind.imp fun x ρ1 os1 H1 e1 s1 k x' rx => ?_⟩
  split at k
  · rename_i hL
    obtain ⟨i, p, xs, vs, rfl, hp, rfl, ho, h3, h4⟩ := isL_at s1 rx hL
    refine ⟨.inl ⟨rfl, vs, SqL.of h3⟩, ρ1, env, os1, s1, he.ext e1, Gives.imp (Gives.bind k) fun y ρ2 os2 H2 e2 s2 k2 y' ry => ?_⟩
    unfold extF at k2
    split at k2
    · rename_i i' ys ei ev
      cases ei
      split at k2
      · rename_i xs2 ho2
        split at k2
        · rename_i hz
          have hp2 := e2.at hp
          obtain ⟨_, vs2, h5, h6⟩ := s2.obj _ _ _ hp2 ho2
          obtain ⟨b1, ws, rfl, h7, h8⟩ := rd_rep s2 ry ev
          obtain ⟨e3, s3⟩ := write_lst s2 hp2 ho2 (h6.append h8)
          exact ⟨_, b1, vs2, ws, rfl, rfl, h5, h7, by have := szOk_le hz; rw [h6.length, h8.length] at this; exact this, k2 ρ2 _ e3 s3 _ .non⟩
        · exact False.elim k2
      · exact False.elim k2
    · exact False.elim k2
  · exact False.elim k
theorem sd_pop (h2 : notSup a = true) (hl : (apos.endLine == pos.line) = true) (ha : PE X a (rdE X.g W da)) :
    PE X (.Call (.Attribute a "pop" apos) [] [] pos) (rdE X.g W (fun env os => (da env os).bind fun x os1 => popF x os1)) := by
  refine PE.imp (pe_bm0 PySem.F.plainAttrs_list PySem.F.slot_list_pop PySem.F.type_list_pop mt_pop ha (base_plain h2) hl) ?_
  rintro σ H Q ⟨ρ, env, os, hs, he, g⟩
  refine ⟨ρ, env, os, hs, he, g.bind.imp fun x ρ1 os1 H1 e1 s1 k x' rx => ?_⟩
  unfold popF at k
  split at k
  · split at k
    · rename_i xs ho
      split at k
      · rename_i y hy
        obtain ⟨p, hp, rfl⟩ := rx
        obtain ⟨_, vs, h5, h6⟩ := s1.obj _ _ _ hp ho
        obtain ⟨v, hv, rv⟩ := h6.get hy
        obtain ⟨e3, s3⟩ := write_lst s1 hp ho h6.dropLast
        exact ⟨.inl ⟨rfl, vs, SqL.of h5⟩, _, vs, v, rfl, rfl, h5, by rw [← h6.length]; exact hv, k ρ1 _ e3 s3 _ (Rep.ext rv e3)⟩
      · exact False.elim k
    · exact False.elim k
  · exact False.elim k
theorem sd_popAt (h1 : notStar e = true) (h2 : notSup a = true) (hl : (apos.endLine == pos.line) = true) (ha : PE X a (rdE X.g W da)) (hb : PE X e (rdE X.g W db)) :
    PE X (.Call (.Attribute a "pop" apos) [e] [] pos) (rdE X.g W (fun env os => (da env os).bind fun x os1 => if isL os1 x then (db env os1).bind fun y os2 => popAtF x y os2 else .bad)) := by
  refine PE.imp (pe_bm PySem.F.plainAttrs_list PySem.F.slot_list_pop PySem.F.type_list_pop mt_popAt ha (pa_cons hb pa_nil (star_plain h1 _)) (base_plain h2) (few_one h1) hl (star_plain h1 _) rfl) ?_
  rintro σ H Q ⟨ρ, env, os, hs, he, g⟩
  refine ⟨ρ, env, os, hs, he, g.bind.imp fun x ρ1 os1 H1 e1 s1 k x' rx => ?_⟩
  split at k
  · rename_i hL
    obtain ⟨i, p, xs, vs, rfl, hp, rfl, ho, h3, h4⟩ := isL_at s1 rx hL
    refine ⟨.inl ⟨rfl, vs, SqL.of h3⟩, ρ1, env, os1, s1, he.ext e1, Gives.imp (Gives.bind k) fun y ρ2 os2 H2 e2 s2 k2 y' ry => ?_⟩
    unfold popAtF at k2
    split at k2
    · rename_i i' j ei
      cases ei
      cases ry
      split at k2
      · rename_i xs2 ho2
        split at k2
        · rename_i n hn
          split at k2
          · rename_i z hz
            split at k2
            case isFalse => exact False.elim k2
            rename_i hsz
            have hsz := szOk_le hsz
            have hp2 := e2.at hp
            obtain ⟨_, vs2, h5, h6⟩ := s2.obj _ _ _ hp2 ho2
            obtain ⟨v, hv, rv⟩ := h6.get hz
            obtain ⟨e3, s3⟩ := write_lst s2 hp2 ho2 (h6.eraseIdx n)
            rw [h6.length] at hn
            obtain ⟨q1, q2, q3, q4⟩ := ixN_seq hn
            rw [h6.length, sizeLine_eq] at hsz
            exact ⟨_, vs2, _, n, v, rfl, rfl, h5, by omega, by omega, q1, hv, k2 ρ2 _ e3 s3 _ (Rep.ext rv e3)⟩
          · exact False.elim k2
        · exact False.elim k2
      · exact False.elim k2
    · exact False.elim k2
  · exact False.elim k
/-- o[i] = v -/
theorem set_gives {mg : G} {ρ : Rho} {os os4 : OS} {H : Hp} {x y : PV} {z : IV} {x' y' z' : V} {K : Rho → OS → Hp → Prop} (s : StOk mg ρ H os) (rx : RepP mg ρ os H x x') (ry : RepP mg ρ os H y y') (rz : Rep mg (Live ρ os) H z z') (h : setF x y z os = some os4)
    {Q : Hp → Prop} (k : ∀ H', Ext ρ os H ρ os4 H' → StOk mg ρ H' os4 → Q H') : rSetL x' y' z' H Q := by
  unfold setF at h
  split at h
  · cases ry
    split at h
    · rename_i xs ho
      obtain ⟨j, hj, rfl⟩ := Option.map_eq_some_iff.mp h
      obtain ⟨p, hp, rfl⟩ := rx
      obtain ⟨_, vs, h5, h6⟩ := s.obj _ _ _ hp ho
      obtain ⟨e3, s3⟩ := write_lst s hp ho (h6.set rz j)
      exact ⟨_, vs, _, j, rfl, rfl, h5, by rw [← h6.length]; exact hj, k _ e3 s3⟩
    · cases h
  · cases h
end
end DP

set_option Elab.async false
set_option linter.all false
set_option maxRecDepth 100000
set_option maxHeartbeats 1000000
/-! Ev7: t[::-1]; what is walked. -/
namespace PySem
section
variable {prog : Program} {w : World} {A : Around} {E : Value → Shared → Prop} {s : Shared}
theorem dp_pickBack (xs : Array Value) : ((List.range xs.size).filterMap fun (k : Nat) => xs[(((xs.size : Int) - 1) + (k : Int) * (-1)).toNat]?) = xs.toList.reverse := by
  have e : (fun (k : Nat) => xs[(((xs.size : Int) - 1) + (k : Int) * (-1)).toNat]?) = fun k => if k < xs.size then xs[xs.size - 1 - k]? else xs[(((xs.size : Int) - 1) + (k : Int) * (-1)).toNat]? := by
    funext k
    split
    · rename_i h
      have : (((xs.size : Int) - 1) + (k : Int) * (-1)).toNat = xs.size - 1 - k := by omega
      rw [this]
    · rfl
  rw [e]
  apply List.ext_getElem?
  intro i
  have h2 : ∀ n, n ≤ xs.size → (List.range n).filterMap (fun k => if k < xs.size then xs[xs.size - 1 - k]? else xs[(((xs.size : Int) - 1) + (k : Int) * (-1)).toNat]?) = xs.toList.reverse.take n := by
    intro n
    induction n with
    | zero => intro _; simp
    | succ n ih =>
      intro hn
      rw [List.range_succ, List.filterMap_append, ih (by omega)]
      have hlt : n < xs.size := by omega
      have hx : xs[xs.size - 1 - n]? = some xs[xs.size - 1 - n] := by simp
      simp only [List.filterMap_cons, List.filterMap_nil, if_pos hlt, hx]
      rw [List.take_succ]
      congr 1
      rw [List.getElem?_reverse (by simpa using hlt)]
      simp [hx]
  rw [h2 xs.size (Nat.le_refl _)]
  have : xs.size = xs.toList.reverse.length := by simp
  rw [this, List.take_length]
theorem dp_getItem_back {t sl : Addr} {items : Array Value} {vl vu vs : Value} {Q : Value → Shared → Prop} (ht : PyProof.Rows.IsTup s.heap t items) (hs : s.heap.IsSliceOf sl vl vu vs) (pl : IsPart vl none) (pu : IsPart vu none) (ps : IsPart vs (some (-1)))
    (h : Q (.ref s.heap.objs.size) { s with heap := s.heap.push { cls := .type "tuple", data := .seq items.toList.reverse.toArray } }) (hsz : items.size ≤ sizeLine) : wpAny (model prog w) A (getItem (.ref t) (.ref sl)) Q E s := by
  have hfit : sizeOk (.seq items.toList.reverse.toArray) := by
    show items.toList.reverse.toArray.size ≤ sizeLine
    simpa using hsz
  obtain ⟨os, hos, hcs, hds⟩ := id hs
  have tsl : s.TypeIs (.ref sl) "slice" := ⟨os, hos, hcs⟩
  have app : ∀ {A' : Around} {E' : Value → Shared → Prop} {R : Int × Int × Nat → Shared → Prop}, R ((items.size : Int) - 1, -1, items.size) s → wpAny (model prog w) A' (Builtin.Slice.sliceApplied (.ref sl) (pure (items.size : Int))) R E' s := by
    intro A' E' R hR
    unfold Builtin.Slice.sliceApplied Builtin.Slice.sliceFields
    refine wpAny_bind (wpAny_bind (wpAny_field hos hds (x := vl) rfl (wpAny_bind (wpAny_field hos hds (x := vu) rfl (wpAny_bind (wpAny_field hos hds (x := vs) rfl (wpAny_pure ?_)))))))
    refine wpAny_bind (HT.slicePart_ ps ?_)
    show wpAny _ _ (if ((-1 : Int) == 0) = true then _ else _) _ _ s
    rw [if_neg (by decide)]
    refine wpAny_bind (HT.slicePart_ pl (wpAny_bind (HT.slicePart_ pu (wpAny_bind (wpAny_pure ?_)))))
    have e1 : Builtin.Slice.sliceAdjust none none (-1) (items.size : Int) = ((items.size : Int) - 1, -1) := by
      unfold Builtin.Slice.sliceAdjust
      simp
    have e2 : Builtin.Slice.slicePlaces ((items.size : Int) - 1) (-1) (-1) = items.size := by
      unfold Builtin.Slice.slicePlaces
      rw [if_neg (by decide)]
      by_cases hz : ((items.size : Int) - 1) > -1
      · rw [if_pos hz]
        have : ((items.size : Int) - 1 - -1 - 1) / (- -1) + 1 = items.size := by
          rw [show (- -1 : Int) = 1 by decide, Int.ediv_one]
          omega
        rw [this]
        exact Int.toNat_natCast _
      · rw [if_neg hz]
        omega
    show wpAny _ _ (match Builtin.Slice.sliceAdjust none none (-1) (items.size : Int) with | (lo, hi) => pure (lo, (-1 : Int), Builtin.Slice.slicePlaces lo hi (-1))) _ _ s
    rw [e1]
    show wpAny _ _ (pure ((items.size : Int) - 1, (-1 : Int), Builtin.Slice.slicePlaces ((items.size : Int) - 1) (-1) (-1))) _ _ s
    rw [e2]
    exact wpAny_pure hR
  unfold getItem
  try with_reducible refine wpAny_holding ?_
  first | refine wpAny_bind (wpAny_pure ?_) | skip
  refine wpAny_bind (wpAny_sequenceKey ht.typeIs (by decide) ?_)
  refine wpAny_bind (wpAny_callSpecial?_slot (name := Str.ofString "__getitem__") ht.typeIs PyProof.Rows.slot_tuple_getitem
    (wpAny_call_entry PyProof.Rows.slot_tuple_getitem ht.typeIs PyProof.Rows.entry_tuple_getitem ?_ (PyProof.Rows.args_tuple_getitem _ _)))
  show wpAny _ _ (Builtin.Tuple.tupleItemsOf (.ref t) >>= _) _ _ s
  refine wpAny_bind (PyProof.Rows.tupleItemsOf_ ht ?_)
  refine wpAny_bind (wpAny_typeOf tsl ?_)
  rw [if_pos (by decide)]
  refine wpAny_bind (app ?_)
  have hno : ¬ ((((items.size : Int) - 1) == 0 && (-1 : Int) == 1 && items.size == items.size) = true) := by simp
  show wpAny _ _ (if (((items.size : Int) - 1) == 0 && (-1 : Int) == 1 && items.size == items.size) = true then _ else _) _ _ s
  rw [if_neg hno, dp_pickBack]
  first
    | exact wpAny_bind (m := Builtin.Tuple.tupleExact _) (wpAny_newObj_type (wpAny_pure ⟨_, rfl, wpAny_pure h⟩) hfit)
    | exact wpAny_bind (m := Builtin.Tuple.tupleExact _) (wpAny_newObj_type (wpAny_bind (wpAny_pure (wpAny_pure ⟨_, rfl, wpAny_pure h⟩))) hfit)
    | exact wpAny_bind (wpAny_bind (m := Builtin.Tuple.tupleExact _) (wpAny_newObj_type (wpAny_pure (wpAny_pure ⟨_, rfl, wpAny_pure h⟩)) hfit))
    | exact wpAny_bind (wpAny_bind (m := Builtin.Tuple.tupleExact _) (wpAny_newObj_type (wpAny_pure ⟨_, rfl, wpAny_pure h⟩) hfit))
end
end PySem
namespace DP
open PySem PySem.Spec L2
section
variable {X : Cx} {W : WX} {a b e : Expr} {es : List Expr} {da db : Env → OS → Res PV} {pos : Pos}
def tRevT (K : PySem.W.Frag) (te : TE) : TE := fun σ H Q => te σ H fun x H1 => ∃ a xs, x = .ref a ∧ SqT K H1 a xs ∧ ∀ p, H1 p = none → Q (.ref p) (upd H1 p (.tup xs.reverse))
theorem pe_revT {te : TE} {k : Nat} {p1 p2 p3 : Pos} (he : PE X e te) : PE X (.Subscript e (.Slice none none (some (.UnaryOp .USub (.Constant (.int 1) k p1) p2)) p3) pos) (tRevT X.K te) := by
  refine ⟨fun pins s σ H Q I h => ?_⟩
  refine PyProof.Rows.Subscript_ (thn (he.run pins s σ H _ I h) fun v s1 ⟨x, H1, I1, r1, q1⟩ => ?_)
  obtain ⟨a, xs, ex, hx, q⟩ := q1
  subst ex
  cases r1
  have stp : PO X (some (.UnaryOp .USub (.Constant (.int 1) k p1) p2)) (tPart (tUn (rU fun i => .int (-i)) (tC (.int 1)))) := po_some (pe_un un_neg pe_int)
  refine PySem.wpAny_Slice (thn (po_none.run pins s1 σ H1 (fun o H2 => o = none ∧ H2 = H1) I1 ⟨rfl, rfl⟩) fun vl s2 ⟨l, H2, I2, pl, el, e2⟩ => ?_)
  subst el e2
  refine thn (po_none.run pins s2 σ H2 (fun o H3 => o = none ∧ H3 = H2) I2 ⟨rfl, rfl⟩) fun vu s3 ⟨u, H3, I3, pu, eu, e3⟩ => ?_
  subst eu e3
  refine thn (stp.run pins s3 σ H3 (fun o H4 => o = some (-1) ∧ H4 = H3) I3 ⟨1, rfl, -1, rfl, rfl, rfl⟩) fun vs s4 ⟨o, H4, I4, ps, eo, e4⟩ => ?_
  subst eo e4
  have I5 : Inv X pins σ H4 { s4 with heap := s4.heap.push { cls := .type "slice", data := .fields #[vl, vu, vs] } } := I4.kept (t' := s4.toks) fun b ob q => Heap.get?_push_of_some _ q
  obtain ⟨its, r, ht, hz⟩ := I5.tuple hx
  have hlen := r.length
  show wpAny (model X.prog X.w) X.A (PyProof.Rows.subscriptTail e (.Slice none none (some (.UnaryOp .USub (.Constant (.int 1) k p1) p2)) p3) (.ref a) (.ref s4.heap.objs.size)) (EP X pins σ Q) X.xe { s4 with heap := s4.heap.push { cls := .type "slice", data := .fields #[vl, vu, vs] } }
  refine PyProof.Rows.tail_any (ops := [.ref a, .ref s4.heap.objs.size]) ht.typeIs (PyProof.Rows.slot_tuple_getitem.lookup) ?_ (by with_unfolding_all rfl)
  refine dp_getItem_back ht (Heap.IsSliceOf.new _ vl vu vs) pl pu ps ?_ (by rw [List.size_toArray]; omega)
  refine ⟨.ref _, _, I5.laid (t' := s4.toks) (o := .tup xs.reverse) (fun b ob q => Heap.get?_push_of_some _ q) (Nat.le_refl _) ?_, rfl, q _ (I5.hok.fresh (Nat.le_refl _))⟩
  exact ⟨by rw [List.length_reverse]; exact hz, _, r.reverse, ⟨_, Heap.get?_push_size _ rfl, rfl, 0, by simp⟩⟩
theorem PE.or {t t' : TE} (h : PE X e t) (h' : PE X e t') : PE X e (fun σ H Q => t σ H Q ∨ t' σ H Q) := ⟨fun pins s σ H Q I q => q.elim (fun z => h.run pins s σ H Q I z) fun z => h'.run pins s σ H Q I z⟩
def revF (x : PV) (os : OS) : Res PV := .lift (((rd os x).bind revIV).map .iv) os
theorem sd_rev {k : Nat} {p1 p2 p3 : Pos} (ha : PE X a (rdE X.g W da)) : PE X (.Subscript a (.Slice none none (some (.UnaryOp .USub (.Constant (.int 1) k p1) p2)) p3) pos) (rdE X.g W (fun env os => (da env os).bind fun x os1 => revF x os1)) := by
  refine ⟨fun pins s σ H Q I h => ?_⟩
  obtain ⟨ρ, env, os, hs, he, g⟩ := id h
  cases q : da env os with
  | bad =>
    rw [show (fun env os => (da env os).bind fun x os1 => revF x os1) env os = (da env os).bind fun x os1 => revF x os1 from rfl, q] at g
    exact False.elim g
  | exc c ns vs os' =>
    refine (pe_revL ha).run pins s σ H Q I ⟨ρ, env, os, hs, he, ?_⟩
    rw [show (fun env os => (da env os).bind fun x os1 => revF x os1) env os = (da env os).bind fun x os1 => revF x os1 from rfl, q] at g
    rw [q]
    exact g
  | ok x os1 =>
    rw [show (fun env os => (da env os).bind fun x os1 => revF x os1) env os = (da env os).bind fun x os1 => revF x os1 from rfl, q] at g
    cases e : rd os1 x with
    | none =>
      have g' : Gives X.g W σ ρ os H (revF x os1) (fun v ρ' os' H' => ∀ v', RepP X.g ρ' os' H' v v' → Q v' H') := g
      unfold revF at g'
      rw [e] at g'
      exact False.elim g'
    | some y =>
      cases hy : revIV y with
      | none =>
        have g' : Gives X.g W σ ρ os H (revF x os1) (fun v ρ' os' H' => ∀ v', RepP X.g ρ' os' H' v v' → Q v' H') := g
        unfold revF at g'
        rw [e] at g'
        simp only [Option.bind_some, hy] at g'
        exact False.elim g'
      | some c =>
        have g' : ∀ ρ' H', Ext ρ os H ρ' os1 H' → StOk X.g ρ' H' os1 → ∀ v', RepP X.g ρ' os1 H' (.iv c) v' → Q v' H' := by
          have g2 : Gives X.g W σ ρ os H (revF x os1) (fun v ρ' os' H' => ∀ v', RepP X.g ρ' os' H' v v' → Q v' H') := g
          unfold revF at g2
          rw [e] at g2
          simp only [Option.bind_some, hy] at g2
          exact g2
        cases y with
        | lst xs =>
          cases hy
          refine (pe_revL ha).run pins s σ H Q I ⟨ρ, env, os, hs, he, ?_⟩
          rw [q]
          intro ρ1 H1 e1 s1 x' rx
          obtain ⟨b1, vs, rfl, h, t⟩ := rd_rep s1 rx e
          exact ⟨b1, vs, rfl, SqL.of h, fun p hp => g' ρ1 _ (e1.trans (ext_fresh hp)) (s1.fresh hp) _ (new_lst s1 hp t.reverse)⟩
        | tup xs =>
          cases hy
          refine (pe_revT ha).run pins s σ H Q I ⟨ρ, env, os, hs, he, ?_⟩
          rw [q]
          intro ρ1 H1 e1 s1 x' rx
          have rm := rd_rep s1 rx e
          cases rm with
          | tup h n t => exact ⟨_, _, rfl, SqT.of h, fun p hp => g' ρ1 _ (e1.trans (ext_fresh hp)) (s1.fresh hp) _ (new_tup s1 hp t.reverse)⟩
        | _ => cases hy
end
end DP

set_option Elab.async false
set_option linter.all false
set_option maxRecDepth 100000
set_option maxHeartbeats 1000000
/-! Ev8: what is walked; targets. -/
namespace PySem
set_option maxHeartbeats 2000000 in
theorem dp_meets_enum {v : Value} {o : Obj} {H : Heap → Prop} (B : Begins v o H) :
    Meets (Builtin.«enumerate.__new__» ⟨[.type "enumerate", v], []⟩) (fun _ R s => H s.heap ∧
      R (.ok (.ret (.ref (s.heap.push o).objs.size))) { s with heap := (s.heap.push o).push { cls := .type "enumerate", data := .fields #[.none, .bool false, .ref s.heap.objs.size, rawInt 0, .none, .none] } }) :=
  .of_wp fun prog w A R s h => by
    obtain ⟨hp, g, d, tk, os⟩ := s
    obtain ⟨hb, h⟩ := h
    have hsub := sub_enumerate
    have step : ∀ {A' : Around} {E : Value → Shared → Prop} {Q : Value → Shared → Prop}, Q (.ref hp.objs.size) ⟨hp.push o, g, d, tk, os⟩ → wpAny (model prog w) A' (pyIter v) Q E ⟨hp, g, d, tk, os⟩ :=
      fun q => B.iter prog w _ _ ⟨hp, g, d, tk, os⟩ _ hb q
    wp_walk using step
    refine wpAny_stack_any fun st => wpAny_pure ?_
    split
    · rename_i c _ _ _ _ _
      cases (c == Value.type "enumerate")
      all_goals
        wp_walk using step
        exact ⟨_, rfl, h⟩
    · wp_walk using step
      exact ⟨_, rfl, h⟩
theorem dp_enum_call {prog : Program} {w : World} {A : Around} {E : Value → Shared → Prop} {s : Shared} {v : Value} {o : Obj} {H : Heap → Prop} {Q : Value → Shared → Prop} (B : Begins v o H) (hb : H s.heap)
    (h : ∀ h', IsEnum h' (s.heap.objs.size + 1) s.heap.objs.size 0 .none → h'.get? s.heap.objs.size = some o → (∀ b u, s.heap.get? b = some u → h'.get? b = some u) → Q (.ref (s.heap.objs.size + 1)) { s with heap := h' }) :
    wpAny (model prog w) A (call (.type "enumerate") [v]) Q E s := by
  have z1 : (s.heap.push o).objs.size = s.heap.objs.size + 1 := Heap.size_push ..
  have en : IsEnum ((s.heap.push o).push { cls := .type "enumerate", data := .fields #[.none, .bool false, .ref s.heap.objs.size, rawInt 0, .none, .none] }) (s.heap.objs.size + 1) s.heap.objs.size 0 .none := by
    have q := Heap.get?_push_size (s.heap.push o) (o := { cls := .type "enumerate", data := .fields #[.none, .bool false, .ref s.heap.objs.size, rawInt 0, .none, .none] }) rfl
    rw [z1] at q
    exact q
  refine callType_new F.called_enumerate (by decide) (F.typeCall_enumerate_1 _) (F.newCall_enumerate_1 _) (fun obj => F.args_object_init_2 obj _) F.entry_enumerate_new (dp_meets_enum B) ⟨hb, ?_⟩
  show _ ∧ _
  rw [z1]
  exact ⟨⟨_, en, rfl⟩, h _ en (Heap.get?_push_of_some _ (Heap.get?_push_size _ B.free)) fun b u x => Heap.get?_push_of_some _ (Heap.get?_push_of_some _ x)⟩
end PySem
namespace DP
open PySem PySem.Spec L2
/-- enumerate over a tracked tuple -/
def IteT (a : Addr) : It :=
  ⟨fun i H => ∃ (xs : List V) (x : V), H a = some (.tup xs) ∧ xs[i]? = some x, fun i H v H' => ∃ T x, v = .ref T ∧ H T = none ∧ H' = upd H T (.tup [.int (i : Nat), x]) ∧ ∀ xs, H a = some (.tup xs) → xs[i]? = some x, fun i H => ∃ xs : List V, H a = some (.tup xs) ∧ xs.length = i⟩
theorem turn_enumT {P : Program} {w : World} {K : PySem.W.Frag} {elts : List Expr} {kk : Nat} {tpos : Pos} (a e it : Addr) :
    Turn P w K (.Tuple elts kk tpos) (IteT a) [e, it] e (fun i h => (∃ old, IsEnum h e it ((i : Nat) : Int) old) ∧ h.IsTupleIter it a i ∧ e ≠ it) where
  mem := by simp
  obj := fun i h st b hb => by
    obtain ⟨⟨old, he⟩, ⟨o, ho, hc, hd⟩, _⟩ := st
    rcases (show b = e ∨ b = it by simpa using hb) with z | z
    · subst z
      exact ⟨_, he, fun v q => nomatch q⟩
    · subst z
      exact ⟨o, ho, fun v q => by rw [hd] at q; cases q⟩
  keep := fun i h h' ⟨⟨old, he⟩, hi, hne⟩ k => ⟨⟨old, k e (by simp) _ he⟩, hi.at fun o q => k it (by simp) o q, hne⟩
  item := by
    intro X hP hw hK hc i pins s σ H E I hf st hg
    subst hP hw hK
    obtain ⟨⟨old, he⟩, hit, hne⟩ := st
    obtain ⟨xs, x, hq, hx⟩ := hg
    obtain ⟨its, rv, p, hz⟩ := I.tuple (SqT.of hq)
    have hel : e < s.heap.objs.size := Heap.lt_size he
    have hil : it < s.heap.objs.size := by obtain ⟨_, q, _⟩ := hit; exact Heap.lt_size q
    have nit : a ≠ it := ne_of_none hq (hf it (by simp)).1
    have nen : a ≠ e := ne_of_none hq (hf e (by simp)).1
    have hlt : i < its.toArray.size := by
      have := (List.getElem?_eq_some_iff.mp hx).1
      rw [rv.length] at this
      simpa using this
    have hd1 : X.A.in1.handled = none := I.ok.hd hc
    refine wpAny_pyNext_enum_itemD (Draws.tuple hd1 it a nit its.toArray) he ⟨hit, show s.heap.IsTuple a its.toArray from p⟩ hlt hne (by simp [hne, Ne.symm nen]) fun u h' tk hu ho hst' hT hsz hk => ?_
    refine ⟨_, rfl, wpAny_letOwnedTupleGo_enum (s := { s with heap := h', toks := tk + 1 }) ho fun h'' he' sb => ?_⟩
    obtain ⟨u', hu', ru⟩ := rv.get hx
    have eu : u = u' := by
      have : its[i]? = some u := by simpa using hu
      rw [hu'] at this
      exact (Option.some.inj this).symm
    subst eu
    have hT2 : h''.get? s.heap.objs.size = some { cls := .type "tuple", data := .seq #[.int i tk, u] } := (sb.2 _ (Nat.ne_of_gt hel)).trans hT
    have new : ObjOk X.prog X.w (upd H s.heap.objs.size (.tup [.int (i : Nat), x])) h'' s.heap.objs.size (.tup [.int (i : Nat), x]) :=
      ⟨by show 2 ≤ sizeLine; decide, [.int i tk, u], .cons ⟨_, rfl⟩ (.cons ru .nil), ⟨_, hT2, rfl, _, rfl⟩⟩
    have I1 : Inv X pins σ (upd H s.heap.objs.size (.tup [.int (i : Nat), x])) { s with heap := h'', toks := tk + 1 } :=
      I.turnedNew (ch := [e, it]) (fun b ob hb q => (sb.2 b (fun z => hb (by simp [z]))).trans (hk b ob (fun z => hb (by simp [z])) (fun z => hb (by simp [z])) q)) hf (Nat.le_refl _) new
    refine ⟨.ref s.heap.objs.size, _, I1, rfl, ⟨_, x, rfl, I.hok.fresh (Nat.le_refl _), rfl, fun ys hy => by rw [hq] at hy; cases hy; exact hx⟩, ⟨⟨u, ?_⟩, hst'.1.at fun o q => (sb.2 it (Ne.symm hne)).trans q, hne⟩, fun b hb => ?_⟩
    · rw [show ((i + 1 : Nat) : Int) = (i : Int) + 1 by omega]
      exact he'
    · have hb' : b < s.heap.objs.size := by
        rcases (show b = e ∨ b = it by simpa using hb) with z | z
        · subst z; exact hel
        · subst z; exact hil
      rw [upd_ne (Nat.ne_of_lt hb')]
      exact (hf b hb).1
  done := by
    intro X hP hw hK hc i pins s σ H E I hf st hg
    subst hP hw hK
    obtain ⟨⟨old, he⟩, hit, hne⟩ := st
    obtain ⟨xs, hq, hx⟩ := hg
    obtain ⟨its, rv, p, hz⟩ := I.tuple (SqT.of hq)
    obtain ⟨f0, f1, f2, f3, f4, f5⟩ := hf it (by simp)
    have nit : a ≠ it := ne_of_none hq f0
    have hl : i = its.toArray.size := by
      rw [← hx, rv.length]
      simp
    subst hl
    exact wpAny_pyNext_enum_endD (Draws.tuple (show X.A.in1.handled = none from I.ok.hd hc) it a nit its.toArray) he ⟨hit, show s.heap.IsTuple a its.toArray from p⟩ fun h' eb => ⟨rfl, I.turned (t' := s.toks) (fun b o hb q => eb b o hb q) f0 f1 f3 f4 f5⟩
  self := fun A i s Q E st h => let ⟨⟨_, he⟩, _⟩ := st; wpAny_pyIter_enum he h
def iEnumT (ta : TA) : TI := fun σ H R => ta σ H fun vs H1 => ∃ a xs, vs = [.ref a] ∧ H1 a = some (.tup xs) ∧ R (IteT a) H1
theorem pi_enumT {X : Cx} {e : Expr} {ta : TA} {p pos tpos : Pos} {elts : List Expr} {kk : Nat} (hg : Gl X "enumerate") (hm : X.mg "enumerate" = none) (ha : PA X [e] ta) (hs : starEach [e] X.env = [(false, eval e X.env)]) :
    PI X (.Tuple elts kk tpos) (.Call (.Name "enumerate" p) [e] [] pos) (iEnumT ta) := by
  refine ⟨fun pins s σ H R I h => ?_⟩
  refine PyProof.Rows.Call_ (ld_blt I hg hm PyProof.Rows.boot_enumerate (PyProof.Rows.callWith_type1 (thn (ha.run pos pins s σ H _ I h) fun us s1 ⟨vs, H1, I1, r1, q1⟩ => ?_) hs rfl))
  obtain ⟨a, xs, ex, hq, q⟩ := q1
  subst ex
  obtain ⟨u, rfl, rr⟩ := vals1 r1
  cases rr
  obtain ⟨its, rv, pt, hz⟩ := I1.tuple (SqT.of hq)
  refine dp_enum_call (begins_tuple a its.toArray) (show s1.heap.IsTuple a its.toArray from pt) fun h' he hit hk => wpAny_pyIter_enum he ?_
  have I2 : Inv X pins σ H1 { s1 with heap := h' } := I1.kept (t' := s1.toks) hk
  refine ⟨s1.heap.objs.size + 1, [s1.heap.objs.size + 1, s1.heap.objs.size], _, _, H1, rfl, I2, turn_enumT a (s1.heap.objs.size + 1) s1.heap.objs.size, ⟨⟨.none, he⟩, ⟨_, hit, rfl, rfl⟩, Nat.succ_ne_self _⟩, fun b hb => ?_, q⟩
  have hle : s1.heap.objs.size ≤ b := by
    rcases (show b = s1.heap.objs.size + 1 ∨ b = s1.heap.objs.size by simpa using hb) with z | z
    · rw [z]; exact Nat.le_add_right _ _
    · rw [z]; exact Nat.le_refl _
  exact I1.fpOk hle (I1.hok.fresh hle)

/-! ### a row of trees, walked -/
structure Walks (mg : G) (ρ : Rho) (os : OS) (H : Hp) (J : It) (xs : List IV) : Prop where
  go : ∀ i x ρ' os' H', xs[i]? = some x → Ext ρ os H ρ' os' H' → StOk mg ρ' H' os' → J.go i H' ∧ ∀ v H'', J.yld i H' v H'' → Ext ρ' os' H' ρ' os' H'' ∧ StOk mg ρ' H'' os' ∧ Rep mg (Live ρ' os') H'' x v
  stop : ∀ ρ' os' H', Ext ρ os H ρ' os' H' → StOk mg ρ' H' os' → J.stop xs.length H'
section
variable {mg : G} {ρ : Rho} {os : OS} {H : Hp} {K : PySem.W.Frag}
theorem sqT_inj {H : Hp} {a : Addr} {xs ys : List V} (hK : K.lookup a = none) (h : H a = some (.tup xs)) (h' : SqT K H a ys) : ys = xs := by
  rcases h' with (r | ⟨o, r⟩) | ⟨o, its, n, e, _⟩
  · rw [h] at r; cases r; rfl
  · rw [h] at r; cases r
  · rw [hK] at e; cases e
theorem walks_tup {a : Addr} {xs : List IV} {vs : List V} (h : H a = some (.tup vs)) (n : ¬ Live ρ os a) (r : Reps mg (Live ρ os) H xs vs) : Walks mg ρ os H (Itt K a) xs where
  go := fun i x ρ' os' H' hx e s => by
    have r' := r.ext e
    have h' := e.keep _ _ h n
    obtain ⟨v, hv, rv⟩ := r'.get hx
    refine ⟨⟨vs, v, SqT.of h', hv⟩, ?_⟩
    rintro w H'' ⟨rfl, q⟩
    have := q vs (SqT.of h')
    rw [hv] at this
    cases this
    exact ⟨Ext.refl, s, rv⟩
  stop := fun ρ' os' H' e s => ⟨vs, SqT.of (e.keep _ _ h n), by rw [r.length]; exact Nat.le_refl _⟩
theorem walks_lst {a : Addr} {xs : List IV} {vs : List V} (h : H a = some (.lst vs)) (n : ¬ Live ρ os a) (r : Reps mg (Live ρ os) H xs vs) : Walks mg ρ os H (Itl K a) xs where
  go := fun i x ρ' os' H' hx e s => by
    have r' := r.ext e
    have h' := e.keep _ _ h n
    obtain ⟨v, hv, rv⟩ := r'.get hx
    refine ⟨⟨vs, v, SqL.of h', hv⟩, ?_⟩
    rintro w H'' ⟨rfl, q⟩
    have := q vs (SqL.of h')
    rw [hv] at this
    cases this
    exact ⟨Ext.refl, s, rv⟩
  stop := fun ρ' os' H' e s => ⟨vs, SqL.of (e.keep _ _ h n), by rw [r.length]; exact Nat.le_refl _⟩
theorem walks_scr {a : Addr} {ns : List Int} (hq : ∀ ρ' os' H', Ext ρ os H ρ' os' H' → SqL K H' a (ns.map V.int)) : Walks mg ρ os H (Itl K a) (ns.map IV.int) where
  go := fun i x ρ' os' H' hx e s => by
    have h' := hq ρ' os' H' e
    rw [List.getElem?_map] at hx
    obtain ⟨m, hm, rfl⟩ := Option.map_eq_some_iff.mp hx
    have hv : (ns.map V.int)[i]? = some (.int m) := by rw [List.getElem?_map, hm]; rfl
    refine ⟨⟨_, _, h', hv⟩, ?_⟩
    rintro w H'' ⟨rfl, q⟩
    have := q _ h'
    rw [hv] at this
    cases this
    exact ⟨Ext.refl, s, .int _⟩
  stop := fun ρ' os' H' e s => ⟨_, hq ρ' os' H' e, by simp⟩
/-- the script as it may be read through what follows -/
theorem scr_sq {v : V} {ns : List Int} (hK : mg.K = K) (r : Rep mg (Live ρ os) H (.scr ns) v) : ∃ a, v = .ref a ∧ ∀ ρ' os' H', Ext ρ os H ρ' os' H' → SqL K H' a (ns.map V.int) := by
  cases r with
  | scr h n => exact ⟨_, rfl, fun ρ' os' H' e => .inl (.inr ⟨_, e.keep _ _ h n⟩)⟩
  | scrK h => exact ⟨_, rfl, fun ρ' os' H' e => .inr (hK ▸ h)⟩
theorem walks_str {z : Str} : Walks mg ρ os H (Its z) (z.cps.toList.map fun c => IV.str ⟨#[c]⟩) where
  go := fun i x ρ' os' H' hx e s => by
    rw [List.getElem?_map] at hx
    obtain ⟨c, hc, rfl⟩ := Option.map_eq_some_iff.mp hx
    have hc' : z.cps[i]? = some c := by simpa using hc
    have hi : i < z.cps.size := (Array.getElem?_eq_some_iff.mp hc').1
    refine ⟨hi, ?_⟩
    rintro w H'' ⟨rfl, c', q, rfl⟩
    rw [hc'] at q
    cases q
    exact ⟨Ext.refl, s, .str _⟩
  stop := fun ρ' os' H' e s => by simp [Its]
theorem rngL_get {lo : Int} {n i : Nat} {x : IV} (h : (rngL lo n)[i]? = some x) : i < n ∧ x = .int (lo + i) := by
  unfold rngL at h
  rw [List.getElem?_map] at h
  obtain ⟨j, hj, rfl⟩ := Option.map_eq_some_iff.mp h
  obtain ⟨h1, h2⟩ := List.getElem?_eq_some_iff.mp hj
  simp at h1 h2
  subst h2
  exact ⟨h1, rfl⟩
theorem walks_rng {lo : Int} {n : Nat} : Walks mg ρ os H (Itr lo n) (rngL lo n) where
  go := fun i x ρ' os' H' hx e s => by
    obtain ⟨hi, rfl⟩ := rngL_get hx
    refine ⟨hi, ?_⟩
    rintro w H'' ⟨rfl, rfl⟩
    exact ⟨Ext.refl, s, .int _⟩
  stop := fun ρ' os' H' e s => by simp [Itr, rngL]
theorem enumL_get : ∀ {xs : List IV} {k i : Nat} {x : IV}, (enumL k xs)[i]? = some x → ∃ y, xs[i]? = some y ∧ x = .tup [.int ((k + i : Nat) : Int), y]
  | [], _, _, _, h => by simp [enumL] at h
  | y :: ys, k, 0, x, h => by
    simp [enumL] at h
    exact ⟨y, rfl, h.symm⟩
  | y :: ys, k, i + 1, x, h => by
    simp only [enumL, List.getElem?_cons_succ] at h
    obtain ⟨z, h1, h2⟩ := enumL_get h
    exact ⟨z, by simpa using h1, by rw [h2]; congr 3; omega⟩
theorem enumL_length : ∀ (xs : List IV) (k : Nat), (enumL k xs).length = xs.length
  | [], _ => rfl
  | _ :: xs, k => by simp [enumL, enumL_length xs]
theorem pair_rep {ρ' : Rho} {os' : OS} {H' : Hp} {T : Addr} {i : Int} {x : IV} {v : V} (s : StOk mg ρ' H' os') (hT : H' T = none) (r : Rep mg (Live ρ' os') H' x v) :
    Ext ρ' os' H' ρ' os' (upd H' T (.tup [.int i, v])) ∧ StOk mg ρ' (upd H' T (.tup [.int i, v])) os' ∧ Rep mg (Live ρ' os') (upd H' T (.tup [.int i, v])) (.tup [.int i, x]) (.ref T) :=
  ⟨ext_fresh hT, s.fresh hT, new_tup s hT (.cons (.int i) (.cons r .nil))⟩
theorem walks_enumL {a : Addr} {xs : List IV} {vs : List V} (h : H a = some (.lst vs)) (n : ¬ Live ρ os a) (r : Reps mg (Live ρ os) H xs vs) : Walks mg ρ os H (Ite K a) (enumL 0 xs) where
  go := fun i x ρ' os' H' hx e s => by
    obtain ⟨y, hy, rfl⟩ := enumL_get hx
    have r' := r.ext e
    have h' := e.keep _ _ h n
    obtain ⟨v, hv, rv⟩ := r'.get hy
    refine ⟨⟨vs, v, SqL.of h', hv⟩, ?_⟩
    rintro w H'' ⟨T, u, rfl, hT, rfl, q⟩
    have := q vs (SqL.of h')
    rw [hv] at this
    cases this
    rw [Nat.zero_add]
    exact pair_rep s hT rv
  stop := fun ρ' os' H' e s => ⟨vs, SqL.of (e.keep _ _ h n), by rw [enumL_length, r.length]; exact Nat.le_refl _⟩
theorem walks_enumS {a : Addr} {ns : List Int} (hq : ∀ ρ' os' H', Ext ρ os H ρ' os' H' → SqL K H' a (ns.map V.int)) : Walks mg ρ os H (Ite K a) (enumL 0 (ns.map IV.int)) where
  go := fun i x ρ' os' H' hx e s => by
    obtain ⟨y, hy, rfl⟩ := enumL_get hx
    have h' := hq ρ' os' H' e
    rw [List.getElem?_map] at hy
    obtain ⟨m, hm, rfl⟩ := Option.map_eq_some_iff.mp hy
    have hv : (ns.map V.int)[i]? = some (.int m) := by rw [List.getElem?_map, hm]; rfl
    refine ⟨⟨_, _, h', hv⟩, ?_⟩
    rintro w H'' ⟨T, u, rfl, hT, rfl, q⟩
    have := q _ h'
    rw [hv] at this
    cases this
    rw [Nat.zero_add]
    exact pair_rep s hT (.int _)
  stop := fun ρ' os' H' e s => ⟨_, hq ρ' os' H' e, by rw [enumL_length]; simp⟩
theorem walks_enumT {a : Addr} {xs : List IV} {vs : List V} (h : H a = some (.tup vs)) (n : ¬ Live ρ os a) (r : Reps mg (Live ρ os) H xs vs) : Walks mg ρ os H (IteT a) (enumL 0 xs) where
  go := fun i x ρ' os' H' hx e s => by
    obtain ⟨y, hy, rfl⟩ := enumL_get hx
    have r' := r.ext e
    have h' := e.keep _ _ h n
    obtain ⟨v, hv, rv⟩ := r'.get hy
    refine ⟨⟨vs, v, h', hv⟩, ?_⟩
    rintro w H'' ⟨T, u, rfl, hT, rfl, q⟩
    have := q vs h'
    rw [hv] at this
    cases this
    rw [Nat.zero_add]
    exact pair_rep s hT rv
  stop := fun ρ' os' H' e s => ⟨vs, e.keep _ _ h n, by rw [enumL_length, r.length]⟩
theorem zipL_get : ∀ {xs ys : List IV} {i : Nat} {x : IV}, (zipL xs ys)[i]? = some x → ∃ y z, xs[i]? = some y ∧ ys[i]? = some z ∧ x = .tup [y, z]
  | [], _, _, _, h => by simp [zipL] at h
  | _ :: _, [], _, _, h => by simp [zipL] at h
  | y :: xs, z :: ys, 0, x, h => by
    simp [zipL] at h
    exact ⟨y, z, rfl, rfl, h.symm⟩
  | y :: xs, z :: ys, i + 1, x, h => by
    simp only [zipL, List.getElem?_cons_succ] at h
    obtain ⟨y', z', h1, h2, h3⟩ := zipL_get h
    exact ⟨y', z', by simpa using h1, by simpa using h2, h3⟩
theorem zipL_length : ∀ (xs ys : List IV), (zipL xs ys).length = min xs.length ys.length
  | [], _ => by simp [zipL]
  | _ :: _, [] => by simp [zipL]
  | _ :: xs, _ :: ys => by simp [zipL, zipL_length xs ys]
theorem walks_zipT {a b : Addr} {xs ys : List IV} {vs ws : List V} (h : H a = some (.tup vs)) (n : ¬ Live ρ os a) (r : Reps mg (Live ρ os) H xs vs) (h2 : H b = some (.tup ws)) (n2 : ¬ Live ρ os b) (r2 : Reps mg (Live ρ os) H ys ws) :
    Walks mg ρ os H (RZ.ItzT K a b) (zipL xs ys) where
  go := fun i x ρ' os' H' hx e s => by
    obtain ⟨y, z, hy, hz, rfl⟩ := zipL_get hx
    have h' := e.keep _ _ h n
    have h2' := e.keep _ _ h2 n2
    obtain ⟨v, hv, rv⟩ := (r.ext e).get hy
    obtain ⟨w, hw, rw'⟩ := (r2.ext e).get hz
    refine ⟨⟨vs, ws, v, w, SqT.of h', SqT.of h2', hv, hw⟩, ?_⟩
    rintro u H'' ⟨T, v', w', rfl, hT, rfl, q, q2⟩
    have e1 := q vs (SqT.of h')
    rw [hv] at e1
    cases e1
    have e2 := q2 ws (SqT.of h2')
    rw [hw] at e2
    cases e2
    exact ⟨ext_fresh hT, s.fresh hT, new_tup s hT (.cons rv (.cons rw' .nil))⟩
  stop := fun ρ' os' H' e s => ⟨vs, ws, SqT.of (e.keep _ _ h n), SqT.of (e.keep _ _ h2 n2), by rw [zipL_length, ← r.length, ← r2.length]; omega⟩
theorem walks_zipL {a b : Addr} {xs ys : List IV} {vs ws : List V} (h : H a = some (.lst vs)) (n : ¬ Live ρ os a) (r : Reps mg (Live ρ os) H xs vs) (h2 : H b = some (.lst ws)) (n2 : ¬ Live ρ os b) (r2 : Reps mg (Live ρ os) H ys ws) :
    Walks mg ρ os H (Itz K a b) (zipL xs ys) where
  go := fun i x ρ' os' H' hx e s => by
    obtain ⟨y, z, hy, hz, rfl⟩ := zipL_get hx
    have h' := e.keep _ _ h n
    have h2' := e.keep _ _ h2 n2
    obtain ⟨v, hv, rv⟩ := (r.ext e).get hy
    obtain ⟨w, hw, rw'⟩ := (r2.ext e).get hz
    refine ⟨⟨vs, ws, v, w, SqL.of h', SqL.of h2', hv, hw⟩, ?_⟩
    rintro u H'' ⟨T, v', w', rfl, hT, rfl, q, q2⟩
    have e1 := q vs (SqL.of h')
    rw [hv] at e1
    cases e1
    have e2 := q2 ws (SqL.of h2')
    rw [hw] at e2
    cases e2
    exact ⟨ext_fresh hT, s.fresh hT, new_tup s hT (.cons rv (.cons rw' .nil))⟩
  stop := fun ρ' os' H' e s => ⟨vs, ws, SqL.of (e.keep _ _ h n), SqL.of (e.keep _ _ h2 n2), by rw [zipL_length, ← r.length, ← r2.length]; omega⟩
end
end DP

set_option Elab.async false
set_option linter.all false
set_option maxRecDepth 100000
set_option maxHeartbeats 1000000
/-! Ev9: walks as rules; targets; comprehensions; loops. -/
namespace DP
open PySem PySem.Spec L2

def rdI (mg : G) (W : WX) (d : Env → OS → Res (List IV)) : TI := fun σ H R => ∃ ρ env os, StOk mg ρ H os ∧ EnvOk mg ρ os H env σ ∧
  Gives mg W σ ρ os H (d env os) (fun xs ρ' os' H' => ∀ J, Walks mg ρ' os' H' J xs → R J H')
section
variable {X : Cx} {W : WX} {tg a b c e : Expr} {es : List Expr} {da db dc : Env → OS → Res PV} {dv : Env → OS → Res (List IV)} {p pos tpos : Pos} {elts : List Expr} {kk : Nat}
/-- a value that is walked itself -/
def seqF (x : PV) (os : OS) : Res (List IV) := (match x with
    | .iv y => .lift (itIV y) os
    | .ref _ => .bad)
theorem si_seq (ha : PE X a (rdE X.g W da)) : PI X tg a (rdI X.g W (fun env os => (da env os).bind fun x os1 => seqF x os1)) := by
  refine ⟨fun pins s σ H R I h => ?_⟩
  obtain ⟨ρ, env, os, hs, he, g⟩ := h
  dsimp only at g
  cases q : da env os with
  | bad =>
    rw [q] at g
    exact False.elim g
  | exc cc ns vs os' =>
    rw [q] at g
    exact (pi_tup ha).run pins s σ H R I ⟨ρ, env, os, hs, he, by rw [q]; exact g⟩
  | ok x os1 =>
    rw [q] at g
    have g1 : Gives X.g W σ ρ os H (seqF x os1) (fun xs ρ' os' H' => ∀ J, Walks X.g ρ' os' H' J xs → R J H') := g
    cases x with
    | ref k => exact False.elim g1
    | iv y =>
      cases y with
      | tup xs =>
        refine (pi_tup ha).run pins s σ H R I ⟨ρ, env, os, hs, he, ?_⟩
        rw [q]
        intro ρ1 H1 e1 s1 x' rx
        cases rx with
        | tup h n r => exact ⟨_, rfl, ⟨_, SqT.of h⟩, g1 ρ1 H1 e1 s1 _ (walks_tup h n r)⟩
      | lst xs =>
        refine (pi_list ha).run pins s σ H R I ⟨ρ, env, os, hs, he, ?_⟩
        rw [q]
        intro ρ1 H1 e1 s1 x' rx
        cases rx with
        | lst h n r => exact ⟨_, rfl, ⟨_, SqL.of h⟩, g1 ρ1 H1 e1 s1 _ (walks_lst h n r)⟩
      | str z =>
        refine (pi_str ha).run pins s σ H R I ⟨ρ, env, os, hs, he, ?_⟩
        rw [q]
        intro ρ1 H1 e1 s1 x' rx
        cases rx
        exact ⟨z, rfl, g1 ρ1 H1 e1 s1 _ walks_str⟩
      | scr ns =>
        refine (pi_list ha).run pins s σ H R I ⟨ρ, env, os, hs, he, ?_⟩
        rw [q]
        intro ρ1 H1 e1 s1 x' rx
        obtain ⟨a1, rfl, hq⟩ := scr_sq (K := X.K) rfl rx
        exact ⟨_, rfl, ⟨_, hq ρ1 os1 H1 Ext.refl⟩, g1 ρ1 H1 e1 s1 _ (walks_scr hq)⟩
      | non => exact False.elim g1
      | bl _ => exact False.elim g1
      | int _ => exact False.elim g1
      | ty _ => exact False.elim g1
      | dic _ _ => exact False.elim g1
      | exn _ _ _ => exact False.elim g1
      | glo _ => exact False.elim g1
theorem rngOk_ok {i : Int} (h : rngOk i = true) : -(2 ^ 62) ≤ i ∧ i < 2 ^ 62 := by simpa [rngOk] using h
theorem star1 (h1 : notStar a = true) (env : PySem.Env) : starEach [a] env = [(false, eval a env)] := star_plain h1 env
theorem star2 (h1 : notStar a = true) (h2 : notStar b = true) (env : PySem.Env) : starEach [a, b] env = [(false, eval a env), (false, eval b env)] := by rw [star_plain h1, star_plain h2]; rfl
/-- one value, two values as arguments -/
def rdA1 (mg : G) (W : WX) (da : Env → OS → Res PV) : TA := fun σ H Q => ∃ ρ env os, StOk mg ρ H os ∧ EnvOk mg ρ os H env σ ∧
  Gives mg W σ ρ os H (da env os) (fun x ρ1 os1 H1 => ∀ x', RepP mg ρ1 os1 H1 x x' → Q [x'] H1)
def rdA2 (mg : G) (W : WX) (da db : Env → OS → Res PV) : TA := fun σ H Q => ∃ ρ env os, StOk mg ρ H os ∧ EnvOk mg ρ os H env σ ∧
  Gives mg W σ ρ os H (da env os) (fun x ρ1 os1 H1 => ∀ x', RepP mg ρ1 os1 H1 x x' → Gives mg W σ ρ1 os1 H1 (db env os1) (fun y ρ2 os2 H2 => ∀ y', RepP mg ρ2 os2 H2 y y' → Q [x', y'] H2))
theorem sa_one (h1 : notStar a = true) (ha : PE X a (rdE X.g W da)) : PA X [a] (rdA1 X.g W da) := by
  refine PA.imp (pa_cons ha pa_nil (star_plain h1 _)) ?_
  rintro σ H Q ⟨ρ, env, os, hs, he, g⟩
  exact ⟨ρ, env, os, hs, he, g⟩
theorem sa_two (h1 : notStar a = true) (h2 : notStar b = true) (ha : PE X a (rdE X.g W da)) (hb : PE X b (rdE X.g W db)) : PA X [a, b] (rdA2 X.g W da db) := by
  refine PA.imp (pa_cons ha (pa_cons hb pa_nil (star_plain h2 _)) (star_plain h1 _)) ?_
  rintro σ H Q ⟨ρ, env, os, hs, he, g⟩
  refine ⟨ρ, env, os, hs, he, g.imp fun x ρ1 os1 H1 e1 s1 k x' rx => ?_⟩
  exact ⟨ρ1, env, os1, s1, he.ext e1, k x' rx⟩
theorem si_rng1 (hg : Gl X "range") (hm : X.mg "range" = none) (h1 : notStar a = true) (ha : PE X a (rdE X.g W da)) : PI X tg (.Call (.Name "range" p) [a] [] pos) (rdI X.g W (fun env os => (da env os).bind fun x os1 => rng1F x os1)) := by
  refine PI.imp (pi_range1 hg hm (sa_one h1 ha) (star1 h1 _)) ?_
  rintro σ H R ⟨ρ, env, os, hs, he, g⟩
  refine ⟨ρ, env, os, hs, he, g.bind.imp fun x ρ1 os1 H1 e1 s1 k x' rx => ?_⟩
  unfold rng1F at k
  split at k
  · split at k
    · rename_i hz
      cases rx
      obtain ⟨z1, z2⟩ := rngOk_ok hz
      exact ⟨_, rfl, z1, z2, k ρ1 H1 Ext.refl s1 _ walks_rng⟩
    · exact False.elim k
  · exact False.elim k
theorem si_rng2 (hg : Gl X "range") (hm : X.mg "range" = none) (h1 : notStar a = true) (h2 : notStar b = true) (ha : PE X a (rdE X.g W da)) (hb : PE X b (rdE X.g W db)) :
    PI X tg (.Call (.Name "range" p) [a, b] [] pos) (rdI X.g W (fun env os => (da env os).bind fun x os1 => (db env os1).bind fun y os2 => rng2F x y os2)) := by
  refine PI.imp (pi_range2 hg hm (sa_two h1 h2 ha hb) (star2 h1 h2 _) (star1 h2 _)) ?_
  rintro σ H R ⟨ρ, env, os, hs, he, g⟩
  refine ⟨ρ, env, os, hs, he, g.bind.imp fun x ρ1 os1 H1 e1 s1 k x' rx => k.bind.imp fun y ρ2 os2 H2 e2 s2 k2 y' ry => ?_⟩
  unfold rng2F at k2
  split at k2
  · split at k2
    · rename_i hz
      cases rx
      cases ry
      obtain ⟨hz1, hz2⟩ := Bool.and_eq_true_iff.mp hz
      obtain ⟨z1, z2⟩ := rngOk_ok hz1
      obtain ⟨z3, z4⟩ := rngOk_ok hz2
      exact ⟨_, _, rfl, ⟨z1, z2, z3, z4⟩, k2 ρ2 H2 Ext.refl s2 _ walks_rng⟩
    · exact False.elim k2
  · exact False.elim k2
theorem si_enum (hg : Gl X "enumerate") (hm : X.mg "enumerate" = none) (h1 : notStar a = true) (ha : PE X a (rdE X.g W da)) : PI X (.Tuple elts kk tpos) (.Call (.Name "enumerate" p) [a] [] pos) (rdI X.g W (fun env os => (da env os).bind fun x os1 => (match x with
    | .iv y => .lift ((enIV y).map (enumL 0)) os1
    | .ref _ => .bad))) := by
  refine ⟨fun pins s σ H R I h => ?_⟩
  obtain ⟨ρ, env, os, hs, he, g⟩ := h
  dsimp only at g
  cases q : da env os with
  | bad =>
    rw [q] at g
    exact False.elim g
  | exc cc ns vs os' =>
    rw [q] at g
    exact (pi_enum hg hm (sa_one h1 ha) (star1 h1 _)).run pins s σ H R I ⟨ρ, env, os, hs, he, by rw [q]; exact g⟩
  | ok x os1 =>
    rw [q] at g
    cases x with
    | ref k => exact False.elim g
    | iv y =>
      cases y with
      | tup xs =>
        have g1 : ∀ ρ' H', Ext ρ os H ρ' os1 H' → StOk X.g ρ' H' os1 → ∀ J, Walks X.g ρ' os1 H' J (enumL 0 xs) → R J H' := g
        refine (pi_enumT hg hm (sa_one h1 ha) (star1 h1 _)).run pins s σ H R I ⟨ρ, env, os, hs, he, ?_⟩
        rw [q]
        intro ρ1 H1 e1 s1 x' rx
        cases rx with
        | tup h n r => exact ⟨_, _, rfl, h, g1 ρ1 H1 e1 s1 _ (walks_enumT h n r)⟩
      | lst xs =>
        have g1 : ∀ ρ' H', Ext ρ os H ρ' os1 H' → StOk X.g ρ' H' os1 → ∀ J, Walks X.g ρ' os1 H' J (enumL 0 xs) → R J H' := g
        refine (pi_enum hg hm (sa_one h1 ha) (star1 h1 _)).run pins s σ H R I ⟨ρ, env, os, hs, he, ?_⟩
        rw [q]
        intro ρ1 H1 e1 s1 x' rx
        cases rx with
        | lst h n r => exact ⟨_, _, rfl, SqL.of h, g1 ρ1 H1 e1 s1 _ (walks_enumL h n r)⟩
      | scr ns =>
        have g1 : ∀ ρ' H', Ext ρ os H ρ' os1 H' → StOk X.g ρ' H' os1 → ∀ J, Walks X.g ρ' os1 H' J (enumL 0 (ns.map IV.int)) → R J H' := g
        refine (pi_enum hg hm (sa_one h1 ha) (star1 h1 _)).run pins s σ H R I ⟨ρ, env, os, hs, he, ?_⟩
        rw [q]
        intro ρ1 H1 e1 s1 x' rx
        obtain ⟨a1, rfl, hq⟩ := scr_sq (K := X.K) rfl rx
        exact ⟨_, _, rfl, hq ρ1 os1 H1 Ext.refl, g1 ρ1 H1 e1 s1 _ (walks_enumS hq)⟩
      | _ => exact False.elim g
theorem si_zip (hg : Gl X "zip") (hm : X.mg "zip" = none) (h1 : notStar a = true) (h2 : notStar b = true) (ha : PE X a (rdE X.g W da)) (hb : PE X b (rdE X.g W db)) :
    PI X (.Tuple elts kk tpos) (.Call (.Name "zip" p) [a, b] [] pos) (rdI X.g W (fun env os => (da env os).bind fun x os1 => (db env os1).bind fun y os2 => (match x, y with
    | .iv (.tup xs), .iv (.tup ys) => .ok (zipL xs ys) os2
    | .iv (.lst xs), .iv (.lst ys) => .ok (zipL xs ys) os2
    | _, _ => .bad))) := by
  refine PI.imp (RZ.pi_zipA hg hm (sa_two h1 h2 ha hb) (star_plain h1 _) (by rw [star1 h2]; rfl)) ?_
  rintro σ H R ⟨ρ, env, os, hs, he, g⟩
  refine ⟨ρ, env, os, hs, he, g.bind.imp fun x ρ1 os1 H1 e1 s1 k x' rx => k.bind.imp fun y ρ2 os2 H2 e2 s2 k2 y' ry => ?_⟩
  have rx2 := rx.ext e2
  split at k2
  · cases rx2 with
    | tup h n r => cases ry with
      | tup h' n' r' => exact ⟨_, _, _, _, rfl, .inr ⟨SqT.of h, SqT.of h', k2 ρ2 H2 Ext.refl s2 _ (walks_zipT h n r h' n' r')⟩⟩
  · cases rx2 with
    | lst h n r => cases ry with
      | lst h' n' r' => exact ⟨_, _, _, _, rfl, .inl ⟨SqL.of h, SqL.of h', k2 ρ2 H2 Ext.refl s2 _ (walks_zipL h n r h' n' r')⟩⟩
  · exact False.elim k2
end
end DP

set_option Elab.async false
set_option linter.all false
set_option maxRecDepth 100000
set_option maxHeartbeats 1000000
/-! Ev10: targets; comprehensions. -/
namespace DP
open PySem PySem.Spec L2

mutual
def slT : T → List Nat
  | .n i => [i]
  | .t ts => slTs ts
def slTs : List T → List Nat
  | [] => []
  | t :: ts => slT t ++ slTs ts
end
/-- only these slots change -/
def Chg (vs : List Nat) (σ σ' : L2.St) : Prop := σ'.length = σ.length ∧ ∀ i, i ∉ vs → σ'[i]? = σ[i]?
theorem Chg.trans {vs ws : List Nat} {a b c : L2.St} (h : Chg vs a b) (k : Chg ws b c) : Chg (vs ++ ws) a c :=
  ⟨k.1.trans h.1, fun i n => by
    rw [List.mem_append, not_or] at n
    rw [k.2 i n.2, h.2 i n.1]⟩
theorem wipe_get {σ : L2.St} {i : Nat} : ∀ {vs : List Nat}, (wipe σ vs)[i]? = if i ∈ vs then (if i < σ.length then some none else none) else σ[i]?
  | [] => by simp [wipe]
  | v :: vs => by
    unfold wipe
    by_cases h : v = i
    · subst h
      by_cases hv : v < σ.length
      · rw [List.getElem?_set_self (by rw [wipe_length]; exact hv)]
        simp [hv]
      · rw [List.getElem?_eq_none (by rw [List.length_set, wipe_length]; omega)]
        simp [hv]
    · rw [List.getElem?_set_ne h, wipe_get (vs := vs)]
      have : i ≠ v := fun e => h e.symm
      simp [List.mem_cons, this]
theorem wipe_chg {σ σ' : L2.St} {vs own : List Nat} (h : Chg vs σ σ') (sub : ∀ i ∈ vs, i ∈ own) : wipe σ' own = wipe σ own := by
  refine List.ext_getElem? fun i => ?_
  rw [wipe_get, wipe_get, h.1]
  split
  · rfl
  · rename_i n
    exact h.2 i fun q => n (sub i q)
theorem wipe_wipe {σ : L2.St} {own : List Nat} : wipe (wipe σ own) own = wipe σ own := by
  refine List.ext_getElem? fun i => ?_
  rw [wipe_get, wipe_get, wipe_length]
  split
  · rfl
  · rename_i n
    rfl

def rdG (mg : G) (t : T) : TG := fun v σ H Q => ∃ ρ env os x env', StOk mg ρ H os ∧ EnvOk mg ρ os H env σ ∧ Rep mg (Live ρ os) H x v ∧ asgT t x env = some env' ∧
  ∀ σ', EnvOk mg ρ os H env' σ' → Chg (slT t) σ σ' → Q σ' H
def rdGs (mg : G) (ts : List T) : TGs := fun vs σ H Q => ∃ ρ env os xs env', StOk mg ρ H os ∧ EnvOk mg ρ os H env σ ∧ Reps mg (Live ρ os) H xs vs ∧ asgTs ts xs env = some env' ∧
  ∀ σ', EnvOk mg ρ os H env' σ' → Chg (slTs ts) σ σ' → Q σ' H
theorem PGs.imp {X : Cx} {e : List Expr} {t t' : TGs} (h : PGs X e t) (i : ∀ v σ H Q, t' v σ H Q → t v σ H Q) : PGs X e t' := ⟨fun pins s σ H v u Q I r q => h.run pins s σ H v u Q I r (i v σ H Q q)⟩
section
variable {X : Cx} {e : Expr} {es : List Expr} {pos : Pos} {k : Nat}
theorem sg_name {i : Nat} {x : Str} (hN : X.N.Nodup) (hi : X.N[i]? = some x) (hx : Loc X.env.scope x) (hf : X.fn x = true ∨ X.env.scope.names.lookup x = some .local) : PG X (.Name x pos) (rdG X.g (.n i)) := by
  refine PG.imp (pg_name hN hi hx hf) ?_
  rintro v σ H Q ⟨ρ, env, os, x, env', hs, he, r, e, q⟩
  simp only [asgT] at e
  split at e
  · cases e
    exact q _ (he.set r) ⟨by simp, fun j n => by rw [List.getElem?_set_ne (by simpa [slT, eq_comm] using n)]⟩
  · cases e
theorem asg_each (h : notStar e = true) (env : PySem.Env) : assignEach (e :: es) env = (false, assign e env) :: assignEach es env := by
  cases e <;> first | rfl | (simp [notStar] at h)
theorem asg_len {env : PySem.Env} : ∀ {es : List Expr}, es.all notStar = true → (assignEach es env).length = es.length
  | [], _ => rfl
  | e :: es, h => by
    obtain ⟨h1, h2⟩ := Bool.and_eq_true_iff.mp (show (notStar e && es.all notStar) = true from h)
    rw [asg_each h1, List.length_cons, List.length_cons, asg_len h2]
theorem asg_find {env : PySem.Env} : ∀ {es : List Expr}, es.all notStar = true → (assignEach es env).findIdx? (·.1) = none
  | [], _ => rfl
  | e :: es, h => by
    obtain ⟨h1, h2⟩ := Bool.and_eq_true_iff.mp (show (notStar e && es.all notStar) = true from h)
    rw [asg_each h1, List.findIdx?_cons, asg_find h2]
    rfl
theorem sgs_nil : PGs X [] (rdGs X.g []) := by
  refine PGs.imp pgs_nil ?_
  rintro v σ H Q ⟨ρ, env, os, xs, env', hs, he, r, e, q⟩
  cases r with
  | nil =>
    simp only [asgTs] at e
    cases e
    exact ⟨rfl, q _ he ⟨rfl, fun _ _ => rfl⟩⟩
  | cons => simp [asgTs] at e
theorem sgs_cons {t : T} {ts : List T} (h1 : PG X e (rdG X.g t)) (h2 : PGs X es (rdGs X.g ts)) (hst : notStar e = true) : PGs X (e :: es) (rdGs X.g (t :: ts)) := by
  refine PGs.imp (pgs_cons h1 h2 (by rw [asg_each hst]; rfl)) ?_
  rintro v σ H Q ⟨ρ, env, os, xs, env', hs, he, r, e, q⟩
  cases r with
  | nil => simp [asgTs] at e
  | cons rx rr =>
    simp only [asgTs] at e
    obtain ⟨env1, e1, e2⟩ := Option.bind_eq_some_iff.mp e
    refine ⟨_, _, rfl, ρ, env, os, _, env1, hs, he, rx, e1, fun σ' he' c => ?_⟩
    exact ⟨ρ, env1, os, _, env', hs, he', rr, e2, fun σ2 he2 c2 => q σ2 he2 (c.trans c2)⟩
theorem sg_tup {ts : List T} (hc : X.calm = true) (h : PGs X es (rdGs X.g ts)) (hst : es.all notStar = true) (hn : ts.length = es.length) : PG X (.Tuple es k pos) (rdG X.g (.t ts)) := by
  have hlen : ∀ {ts : List T} {xs : List IV} {env env' : Env}, asgTs ts xs env = some env' → xs.length = ts.length := by
    intro ts
    induction ts with
    | nil =>
      intro xs env env' e
      cases xs with
      | nil => rfl
      | cons => simp [asgTs] at e
    | cons t ts ih =>
      intro xs env env' e
      cases xs with
      | nil => simp [asgTs] at e
      | cons x xs =>
        simp only [asgTs] at e
        obtain ⟨env1, e1, e2⟩ := Option.bind_eq_some_iff.mp e
        rw [List.length_cons, List.length_cons, ih e2]
  refine ⟨fun pins s σ H v u Q I r hw => ?_⟩
  obtain ⟨ρ, env, os, x, env', hs, he, rx, e, q⟩ := hw
  simp only [asgT] at e
  split at e
  · cases rx with
    | tup hh n rr => exact (pg_tup hc h ((asg_len hst).trans hn.symm) (asg_find hst)).run pins s σ H _ u Q I r ⟨_, _, rfl, SqT.of hh, by rw [← rr.length]; exact hlen e, ρ, env, os, _, env', hs, he, rr, e, q⟩
  · cases rx with
    | lst hh n rr => exact (pg_lst hc h ((asg_len hst).trans hn.symm) (asg_find hst)).run pins s σ H _ u Q I r ⟨_, _, rfl, SqL.of hh, by rw [← rr.length]; exact hlen e, ρ, env, os, _, env', hs, he, rr, e, q⟩
  · cases e
end

/-! ### an address out of bounds that we write ourselves -/
section
variable {mg : G} {ρ ρ' ρ1 : Rho} {os os' os1 : OS} {H H' H1 : Hp} {D : Addr}
def Rho.lock (ρ : Rho) (D : Addr) : Rho := ⟨ρ.l, fun b => ρ.F b ∨ b = D⟩
theorem kp_lock {o : HO} (hF : ρ.F D) : Kp (Live ρ os) H (Live ρ os) (upd H D o) :=
  ⟨fun b u h n => by
    have hb : b ≠ D := fun e => n (.inr (by rw [e]; exact hF))
    rw [upd_ne hb]; exact h, fun b l => .inl l⟩
theorem StOk.locked (s : StOk mg ρ H os) {o : HO} (hF : ρ.F D) : StOk mg ρ (upd H D o) os := by
  have ne : ∀ (k : Nat) (q : Addr × List Addr), ρ.l[k]? = some q → ∀ b ∈ q.1 :: q.2, b ≠ D := fun k q e b hb z => s.out k q e b hb (z ▸ hF)
  refine ⟨s.len, s.nd, s.dis, fun k q e b hb => ?_, fun k q u e e' => ?_, s.out, fun b hb => ?_⟩
  · rw [upd_ne (ne k q e b hb)]
    exact s.there k q e b hb
  · exact (s.obj k q u e e').kp (kp_lock hF) fun b hb => upd_ne (ne k q e b hb)
  · by_cases z : b = D
    · rw [z, upd_same]; simp
    · rw [upd_ne z]; exact s.fth b hb
/-- the address is new, and locked -/
theorem StOk.lock (s : StOk mg ρ H os) {o : HO} (h : H D = none) : StOk mg (ρ.lock D) (upd H D o) os := by
  have kp : Kp (Live ρ os) H (Live (ρ.lock D) os) (upd H D o) := ⟨fun b u e _ => by rw [upd_ne (ne_of_none e h)]; exact e, fun b l => by
    rcases l with l | l | l
    · exact .inl (.inl l)
    · exact .inl (.inr l)
    · exact .inr (l ▸ h)⟩
  have ne : ∀ (k : Nat) (q : Addr × List Addr), ρ.l[k]? = some q → ∀ b ∈ q.1 :: q.2, b ≠ D := fun k q e b hb z => s.there k q e b hb (z ▸ h)
  refine ⟨s.len, s.nd, s.dis, fun k q e b hb => ?_, fun k q u e e' => ?_, fun k q e b hb l => ?_, fun b hb => ?_⟩
  · rw [upd_ne (ne k q e b hb)]
    exact s.there k q e b hb
  · exact (s.obj k q u e e').kp kp fun b hb => upd_ne (ne k q e b hb)
  · rcases l with l | l
    · exact s.out k q e b hb l
    · exact ne k q e b hb l
  · by_cases z : b = D
    · rw [z, upd_same]; simp
    · rw [upd_ne z]
      rcases hb with hb | hb
      · exact s.fth b hb
      · exact absurd hb z
theorem ext_lock {o : HO} (h : H D = none) : Ext ρ os H (ρ.lock D) os (upd H D o) :=
  ⟨⟨[], by simp [Rho.lock]⟩, fun _ h => .inl h, fun b l => by
    rcases l with l | l
    · exact .inl (.inr l)
    · exact .inr (l ▸ h), fun b u e _ => by rw [upd_ne (ne_of_none e h)]; exact e, fun _ l => .inl l⟩
theorem Ext.upd (e : Ext ρ os H ρ' os' H') {o : HO} (h : H D = none) : Ext ρ os H ρ' os' (upd H' D o) :=
  ⟨e.pre, e.mono, e.fnew, fun b u q n => by rw [upd_ne (ne_of_none q h)]; exact e.hold b u q n, e.own⟩
/-- out again -/
def Rho.as (ρ : Rho) (F : Addr → Prop) : Rho := ⟨ρ.l, F⟩
theorem kp_as {F : Addr → Prop} (sub : ∀ b, F b → ρ.F b) : Kp (Live ρ os) H (Live (ρ.as F) os) H :=
  ⟨fun _ _ h _ => h, fun b l => by
    rcases l with l | l
    · exact .inl (.inl l)
    · exact .inl (.inr (sub b l))⟩
theorem StOk.as (s : StOk mg ρ H os) {F : Addr → Prop} (sub : ∀ b, F b → ρ.F b) : StOk mg (ρ.as F) H os :=
  ⟨s.len, s.nd, s.dis, s.there, fun k q u e e' => (s.obj k q u e e').kp (kp_as sub) fun _ _ => rfl, fun k q e b hb l => s.out k q e b hb (sub b l), fun b hb => s.fth b (sub b hb)⟩
theorem Ext.as (e : Ext ρ1 os1 H1 ρ os H) : Ext ρ1 os1 H1 (ρ.as ρ1.F) os H :=
  ⟨e.pre, fun _ h => h, fun _ h => .inl (.inr h), e.hold, e.own⟩
/-- a locked list becomes an object of the store -/
theorem StOk.join (s : StOk mg ρ H os) {F : Addr → Prop} (sub : ∀ b, F b → ρ.F b) (hF : ρ.F D) (hn : ¬ F D) {o : OB} (ho : ObR mg (Live ρ os) H (D, []) o) : StOk mg (Rho.push (ρ.as F) (D, [])) H (os ++ [o]) := by
  have hlen := s.len
  have kp : Kp (Live ρ os) H (Live (Rho.push (ρ.as F) (D, [])) (os ++ [o])) H := ⟨fun _ _ h _ => h, fun b l => by
    rcases l with l | l
    · rcases own_push (ρ := ρ.as F) (by exact hlen) l with q | q | q
      · exact .inl (.inl q)
      · exact .inl (.inr (by rw [q]; exact hF))
      · cases q
    · exact .inl (.inr (sub b l))⟩
  refine ⟨by simp [Rho.push, Rho.as, hlen], fun k q hq => ?_, fun j k q r n hq hr b hb => ?_, fun k q hq b hb => ?_, fun k q w hq hw => ?_, fun k q hq b hb => ?_, fun b hb => s.fth b (sub b hb)⟩
  · rcases get_push hq with ⟨_, z⟩ | ⟨_, z⟩
    · exact s.nd k q z
    · rw [z]; simp
  · rcases get_push hq with ⟨_, z⟩ | ⟨zj, z⟩ <;> rcases get_push hr with ⟨_, y⟩ | ⟨yk, y⟩
    · exact s.dis j k q r n z y b hb
    · rw [y]
      intro c
      simp at c
      subst c
      exact s.out j q z b hb hF
    · rw [z] at hb
      simp at hb
      subst hb
      intro c
      exact s.out k r y b c hF
    · omega
  · rcases get_push hq with ⟨_, y⟩ | ⟨_, y⟩
    · exact s.there k q y b hb
    · rw [y] at hb; simp at hb; subst hb; exact s.fth b hF
  · rcases get_push hq with ⟨hk, y⟩ | ⟨hk, y⟩
    · rw [List.getElem?_append_left (by rw [← hlen]; exact hk)] at hw
      exact (s.obj k q w y hw).kp kp fun _ _ => rfl
    · rcases get_push hw with ⟨hk', y'⟩ | ⟨hk', y'⟩
      · have hk : k = ρ.l.length := hk
        omega
      · rw [y, y']
        exact ho.kp kp fun _ _ => rfl
  · rcases get_push hq with ⟨_, y⟩ | ⟨_, y⟩
    · exact fun l => s.out k q y b hb (sub b l)
    · rw [y] at hb
      simp at hb
      subst hb
      exact hn
theorem ext_join (e : Ext ρ1 os1 H1 ρ os H) (hlen : ρ.l.length = os.length) {o : OB} (h : H1 D = none) : Ext ρ1 os1 H1 (Rho.push (ρ.as ρ1.F) (D, [])) (os ++ [o]) H := by
  refine ⟨?_, fun _ h => h, fun _ h => .inl (.inr h), e.hold, fun b l => ?_⟩
  · obtain ⟨t, q⟩ := e.pre
    exact ⟨t ++ [(D, [])], by simp [Rho.push, Rho.as, q]⟩
  · rcases own_push (ρ := ρ.as ρ1.F) (by exact hlen) l with q | q | q
    · exact e.own b q
    · exact .inr (q ▸ h)
    · cases q
end
end DP

set_option Elab.async false
set_option linter.all false
set_option maxRecDepth 100000
set_option maxHeartbeats 1000000
/-! Ev11: comprehensions. -/
namespace DP
open PySem PySem.Spec L2

/-- no exception -/
def W0 : WX := fun _ _ _ _ => False
def rdB (mg : G) (W : WX) (d : Env → OS → Res Bool) : TT := fun σ H Q => ∃ ρ env os, StOk mg ρ H os ∧ EnvOk mg ρ os H env σ ∧
  Gives mg W σ ρ os H (d env os) (fun b ρ' os' H' => Q b H')
def lcF (m : Bool) (own : List Nat) (tg : T) (di : Env → OS → Res (List IV)) (dt : Env → OS → Res Bool) (de : Env → OS → Res PV) : Env → OS → Res PV := fun env os =>
  (di env os).bind fun xs os1 => (compGo (compStep own tg (wipeE env own) dt de) xs [] os1).bind fun ys os2 => mkList m ys os2
theorem PTs.imp {X : Cx} {e : List Expr} {t t' : TT} (h : PTs X e t) (i : ∀ σ H Q, t' σ H Q → t σ H Q) : PTs X e t' := ⟨fun pins s σ H Q I q => h.run pins s σ H Q I (i σ H Q q)⟩
theorem sts_nil {X : Cx} {W : WX} : PTs X [] (rdB X.g W fun _ os => .ok true os) := by
  refine PTs.imp pts_nil ?_
  rintro σ H Q ⟨ρ, env, os, hs, he, g⟩
  exact g ρ H Ext.refl hs
theorem sts_one {X : Cx} {W : WX} {c : Expr} {dc : Env → OS → Res PV} (h : PT X c (rdT X.g W dc)) : PTs X [c] (rdB X.g W fun env os => (dc env os).bind fun v os1 => (match v with
    | .iv (.bl b) => .ok b os1
    | _ => .bad)) := by
  refine PTs.imp (pts_one h) ?_
  rintro σ H Q ⟨ρ, env, os, hs, he, g⟩
  refine ⟨ρ, env, os, hs, he, g.bind.imp fun x ρ1 os1 H1 e1 s1 k => ?_⟩
  split at k
  · exact ⟨_, rfl, k ρ1 H1 Ext.refl s1⟩
  · exact False.elim k

section
variable {mg : G} {W : WX}
theorem lc_imp {m : Bool} {own : List Nat} {tg : T} {di : Env → OS → Res (List IV)} {dt : Env → OS → Res Bool} {de : Env → OS → Res PV} (sub : ∀ i ∈ slT tg, i ∈ own) {σ : L2.St} {H : Hp} {Q : VK}
    (h : rdE mg W (lcF m own tg di dt de) σ H Q) : tLc (rdI mg W di) (rdG mg tg) (rdB mg W0 dt) (rdE mg W0 de) own σ H Q := by
  obtain ⟨ρ, env, os, hs, he, g⟩ := h
  refine ⟨ρ, env, os, hs, he, g.bind.imp fun xs ρ1 os1 H1 e1 s1 k J wk D hD => ?_⟩
  have he1 := he.ext e1
  let turn := compStep own tg (wipeE env own) dt de
  let Nw : Nat → Hp → Prop := fun i H => ∃ ρi osi acc vs, StOk mg ρi H osi ∧ Ext ρ1 os1 H1 ρi osi H ∧ ρi.F D ∧ H D = some (.lst vs) ∧ Reps mg (Live ρi osi) H acc vs ∧
    Gives mg W σ ρ1 os1 H1 ((compGo turn (xs.drop i) acc osi).bind fun ys os2 => mkList m ys os2) (fun v ρ' os' H' => ∀ v', RepP mg ρ' os' H' v v' → Q v' H')
  refine ⟨fun i mm H => mm = xs.length - i ∧ i ≤ xs.length ∧ Nw i H, ⟨xs.length, by simp, Nat.zero_le _, ρ1.lock D, os1, [], [], s1.lock hD, ext_lock hD, .inr rfl, upd_same, .nil, by simpa using k⟩, ?_⟩
  rintro i mm Hi ⟨rfl, hi, ρi, osi, acc, vs, si, ei, hF, hDi, ra, gk⟩
  by_cases hlt : i < xs.length
  · have hx : xs[i]? = some xs[i] := by simp [hlt]
    obtain ⟨go, yl⟩ := wk.go i _ ρi osi Hi hx ei si
    refine .inr ⟨go, Nw (i + 1), fun H' n => ⟨xs.length - (i + 1), by omega, rfl, hlt, n⟩, fun v H2 yd => ?_⟩
    obtain ⟨e2, s2, rv⟩ := yl v H2 yd
    have dr : xs.drop i = xs[i] :: xs.drop (i + 1) := by rw [List.drop_eq_getElem_cons hlt]
    rw [dr] at gk
    simp only [compGo] at gk
    have ei2 := ei.trans e2
    have ew := ((he1.ext ei2).wipe own)
    have notOwn : ∀ {ρ' : Rho} {os' : OS} {H' : Hp}, StOk mg ρ' H' os' → ρ'.F D → ¬ Own ρ' os' D := fun s f ⟨k, p, o, h1, _, _, z⟩ => s.out k p h1 D (by simpa using z) f
    have hD2 : H2 D = some (.lst vs) := e2.hold D _ hDi (notOwn si hF)
    have ra2 := ra.ext e2
    cases ea : asgT tg xs[i] (wipeE env own) with
    | none =>
      simp only [turn, compStep, ea] at gk
      exact False.elim gk
    | some env' =>
      simp only [turn, compStep, ea] at gk
      refine ⟨ρi, wipeE env own, osi, xs[i], env', s2, ew, rv, ea, fun σ2 he2 chg => ⟨?_, ρi, env', osi, s2, he2, ?_⟩⟩
      · rw [wipe_chg chg sub, wipe_wipe]
      · cases qb : dt env' osi with
        | bad => rw [qb] at gk; exact False.elim gk
        | exc c ns ws os' => rw [qb] at gk; exact False.elim gk
        | ok b os3 =>
          rw [qb] at gk
          intro ρ3 H3 e3 s3
          have hD3 : H3 D = some (.lst vs) := e3.hold D _ hD2 (notOwn s2 hF)
          have ra3 := ra2.ext e3
          cases b with
          | false =>
            refine iteF ?_
            exact ⟨ρ3, os3, acc, vs, s3, ei2.trans e3, e3.mono D hF, hD3, ra3, gk⟩
          | true =>
            refine iteT ?_
            refine ⟨ρ3, env', os3, s3, he2.ext e3, ?_⟩
            cases qe : de env' os3 with
            | bad =>
              simp only [Res.noX, Res.bind, if_true, qe] at gk
              exact False.elim gk
            | exc c ns ws os' =>
              simp only [Res.noX, Res.bind, if_true, qe] at gk
              exact False.elim gk
            | ok v os4 =>
              cases v with
              | ref z =>
                simp only [Res.noX, Res.bind, if_true, qe] at gk
                exact False.elim gk
              | iv y =>
                simp only [Res.noX, Res.bind, if_true, qe] at gk
                intro ρ4 H4 e4 s4 y' ry
                have hF4 := e4.mono D (e3.mono D hF)
                have hD4 : H4 D = some (.lst vs) := e4.hold D _ hD3 (notOwn s3 (e3.mono D hF))
                by_cases hz : szOk (acc.length + 1) = true
                · rw [if_pos hz] at gk
                  have ra4 := ra3.ext e4
                  refine ⟨vs, hD4, ?_, ρ4, os4, acc ++ [y], vs ++ [y'], s4.locked hF4, (((ei2.trans e3).trans e4).upd hD), hF4, upd_same, ?_, gk⟩
                  · have := szOk_le hz
                    rw [ra.length] at this
                    exact this
                  · exact (ra4.append (.cons ry .nil)).kp (kp_lock hF4)
                · rw [if_neg hz] at gk
                  exact False.elim gk
  · have e : i = xs.length := by omega
    subst e
    refine .inl ⟨wk.stop ρi osi Hi ei si, ?_⟩
    rw [List.drop_length] at gk
    simp only [compGo, Res.bind] at gk
    have hnF : ¬ ρ1.F D := fun q => s1.fth D q hD
    have hnO : ¬ Own ρi osi D := fun ⟨k, p, o, h1, _, _, z⟩ => si.out k p h1 D (by simpa using z) hF
    cases m with
    | false =>
      simp only [mkList, Bool.false_eq_true, if_false] at gk
      refine gk (ρi.as ρ1.F) Hi ei.as (si.as ei.mono) (.ref D) (Rep.lst hDi (fun l => ?_) (ra.kp (kp_as ei.mono)))
      rcases l with l | l
      · exact hnO l
      · exact hnF l
    | true =>
      simp only [mkList, if_true] at gk
      refine gk _ Hi (ext_join ei si.len hD) (si.join ei.mono hF hnF ⟨rfl, vs, hDi, ra⟩) (.ref D) ⟨(D, []), ?_, rfl⟩
      rw [← si.len]
      simp [Rho.push, Rho.as]
end
section
variable {X : Cx} {W : WX} {elt tg iter : Expr} {ifs : List Expr} {scope : Scope} {own : List (Str × Nat)} {pos : Pos}
theorem sd_lc {m : Bool} {t : T} {di : Env → OS → Res (List IV)} {dt : Env → OS → Res Bool} {de : Env → OS → Res PV} (hc : X.calm = true) (hN : X.N.Nodup) (hi : PI X tg iter (rdI X.g W di)) (ok : BlkOk X.N X.env.scope scope own) (sub : ∀ i ∈ slT t, i ∈ own.map (·.2))
    (hg : ∀ (s : Shared) (H : Hp) (C : Addr) (cl : List (Str × Addr)) (fp : List Addr), PG (X.blk s H scope (compEnvC scope cl C X.env) fp) tg (rdG X.g t)) (ht : ∀ (s : Shared) (H : Hp) (C : Addr) (cl : List (Str × Addr)) (fp : List Addr), PTs (X.blk s H scope (compEnvC scope cl C X.env) fp) ifs (rdB X.g W0 dt))
    (he : ∀ (s : Shared) (H : Hp) (C : Addr) (cl : List (Str × Addr)) (fp : List Addr), PE (X.blk s H scope (compEnvC scope cl C X.env) fp) elt (rdE X.g W0 de)) (hs : ∀ x, foldedSetIterable iter X.env x = pure x) :
    PE X (.ListComp elt [⟨tg, iter, ifs, 0⟩] scope pos) (rdE X.g W (lcF m (own.map (·.2)) t di dt de)) :=
  PE.imp (pe_lc hc hN hi ok hg ht he hs) fun _ _ _ h => lc_imp sub h
end
end DP

set_option Elab.async false
set_option linter.all false
set_option maxRecDepth 100000
set_option maxHeartbeats 1000000
/-! Ev12: statements. -/
namespace DP
open PySem PySem.Spec L2

def GivesS (mg : G) (W : WX) (D : Ends) (ρ : Rho) (os : OS) (H : Hp) (r : SR) : Prop := match r with
  | .nx env' os' => ∀ ρ' H' σ', Ext ρ os H ρ' os' H' → StOk mg ρ' H' os' → EnvOk mg ρ' os' H' env' σ' → D.nx σ' H'
  | .bk env' os' => ∀ ρ' H' σ', Ext ρ os H ρ' os' H' → StOk mg ρ' H' os' → EnvOk mg ρ' os' H' env' σ' → D.bk σ' H'
  | .ct env' os' => ∀ ρ' H' σ', Ext ρ os H ρ' os' H' → StOk mg ρ' H' os' → EnvOk mg ρ' os' H' env' σ' → D.ct σ' H'
  | .rt v os' => ∀ ρ' H' v', Ext ρ os H ρ' os' H' → StOk mg ρ' H' os' → RepP mg ρ' os' H' v v' → D.rt v' H'
  | .exc c ns vs env' os' => ∀ ρ' H' σ' C dd (fs : List (Str × V)), Ext ρ os H ρ' os' H' → StOk mg ρ' H' os' → EnvOk mg ρ' os' H' env' σ' → mg.m c = some (.ref C) → H' dd = some (.xd fs) → ¬ Live ρ' os' dd → fs.map (·.1) = ns → Reps mg (Live ρ' os') H' vs (fs.map (·.2)) → W (.ref C) (some dd) σ' H'
  | .bad => False
def rdS (mg : G) (W : WX) (d : Env → OS → SR) : TS := fun D σ H => ∃ ρ env os, StOk mg ρ H os ∧ EnvOk mg ρ os H env σ ∧ GivesS mg W D ρ os H (d env os)
section
variable {mg : G} {W : WX} {D D' : Ends} {ρ ρ1 : Rho} {os os1 : OS} {H H1 : Hp} {r : SR} {σ : L2.St} {env : Env}
theorem GivesS.step (e : Ext ρ os H ρ1 os1 H1) (g : GivesS mg W D ρ os H r) : GivesS mg W D ρ1 os1 H1 r := by
  cases r with
  | nx env' os' => exact fun ρ' H' σ' e' => g ρ' H' σ' (e.trans e')
  | bk env' os' => exact fun ρ' H' σ' e' => g ρ' H' σ' (e.trans e')
  | ct env' os' => exact fun ρ' H' σ' e' => g ρ' H' σ' (e.trans e')
  | rt v os' => exact fun ρ' H' σ' e' => g ρ' H' σ' (e.trans e')
  | exc c ns vs env' os' => exact fun ρ' H' σ' C dd fs e' => g ρ' H' σ' C dd fs (e.trans e')
  | bad => exact g
/-- from a statement's end to its first expression -/
theorem GivesS.expr {α : Type} {x : Res α} {f : α → OS → SR} (he : EnvOk mg ρ os H env σ) (g : GivesS mg W D ρ os H (x.toSR env f)) : Gives mg W σ ρ os H x (fun a ρ1 os1 H1 => GivesS mg W D ρ1 os1 H1 (f a os1)) := by
  cases x with
  | ok a os1 => exact fun ρ1 H1 e1 s1 => GivesS.step e1 g
  | exc c ns vs os' => exact fun ρ' H' C dd fs e1 s1 => g ρ' H' σ C dd fs e1 s1 (he.ext e1)
  | bad => exact g
theorem GivesS.then {f : Env → OS → SR} (g : GivesS mg W D ρ os H (r.then f)) (hn : ∀ ρ' H' σ' env' os', Ext ρ os H ρ' os' H' → StOk mg ρ' H' os' → EnvOk mg ρ' os' H' env' σ' → GivesS mg W D ρ' os' H' (f env' os') → D'.nx σ' H')
    (hb : D'.bk = D.bk) (hc : D'.ct = D.ct) (hr : D'.rt = D.rt) : GivesS mg W D' ρ os H r := by
  cases r with
  | nx env' os' => exact fun ρ' H' σ' e' s' n' => hn ρ' H' σ' env' os' e' s' n' (GivesS.step e' g)
  | bk env' os' =>
    show ∀ ρ' H' σ', _ → _ → _ → D'.bk σ' H'
    rw [hb]; exact g
  | ct env' os' =>
    show ∀ ρ' H' σ', _ → _ → _ → D'.ct σ' H'
    rw [hc]; exact g
  | rt v os' =>
    show ∀ ρ' H' σ', _ → _ → _ → D'.rt σ' H'
    rw [hr]; exact g
  | exc c ns vs env' os' => exact g
  | bad => exact g
end

section
variable {X : Cx} {W : WX} {st : Stmt} {rest : List Stmt} {e : Expr} {es : List Expr} {d1 d2 : Env → OS → SR} {da db dc : Env → OS → Res PV} {pos : Pos}
theorem ss_nil : PSs X [] (rdS X.g W fun env os => .nx env os) := by
  refine PSs.imp pss_nil ?_
  rintro D σ H ⟨ρ, env, os, hs, he, g⟩
  exact g ρ H σ Ext.refl hs he
theorem ss_cons (h1 : PS X st (rdS X.g W d1)) (h2 : PSs X rest (rdS X.g W d2)) : PSs X (st :: rest) (rdS X.g W fun env os => (d1 env os).then d2) := by
  refine PSs.imp (pss_cons h1 h2) ?_
  rintro D σ H ⟨ρ, env, os, hs, he, g⟩
  exact ⟨ρ, env, os, hs, he, GivesS.then g (fun ρ' H' σ' env' os' e' s' n' g' => ⟨ρ', env', os', s', n', g'⟩) rfl rfl rfl⟩
theorem ss_pass : PS X (.Pass pos) (rdS X.g W fun env os => .nx env os) := by
  refine PS.imp ps_pass ?_
  rintro D σ H ⟨ρ, env, os, hs, he, g⟩
  exact g ρ H σ Ext.refl hs he
theorem ss_brk : PS X (.Break pos) (rdS X.g W fun env os => .bk env os) := by
  refine PS.imp ps_break ?_
  rintro D σ H ⟨ρ, env, os, hs, he, g⟩
  exact g ρ H σ Ext.refl hs he
theorem ss_cnt : PS X (.Continue pos) (rdS X.g W fun env os => .ct env os) := by
  refine PS.imp ps_continue ?_
  rintro D σ H ⟨ρ, env, os, hs, he, g⟩
  exact g ρ H σ Ext.refl hs he
theorem ss_never : PS X st (rdS X.g W fun _ _ => .bad) := by
  refine PS.imp ps_never ?_
  rintro D σ H ⟨ρ, env, os, hs, he, g⟩
  exact g
theorem ss_ret (h : PE X e (rdE X.g W da)) : PS X (.Return (some e) pos) (rdS X.g W fun env os => (da env os).toSR env fun v os1 => .rt v os1) := by
  refine PS.imp (ps_ret h) ?_
  rintro D σ H ⟨ρ, env, os, hs, he, g⟩
  exact ⟨ρ, env, os, hs, he, (GivesS.expr he g).imp fun v ρ1 os1 H1 e1 s1 k v' rv => k ρ1 H1 v' Ext.refl s1 rv⟩
theorem ss_retN : PS X (.Return none pos) (rdS X.g W fun _ os => .rt (.iv .non) os) := by
  refine PS.imp ps_retN ?_
  rintro D σ H ⟨ρ, env, os, hs, he, g⟩
  exact g ρ H .non Ext.refl hs .non
def notComp : Expr → Bool
  | .ListComp _ _ _ _ => false
  | .SetComp _ _ _ _ => false
  | .DictComp _ _ _ _ _ => false
  | _ => true
theorem sw_no {tg : Option Expr} {l : Nat} {env : PySem.Env} (h : notComp e = true) : swapsWith e tg l env = pure false := by
  cases e <;> first | rfl | (simp [notComp] at h)
theorem sws_no {t : Expr} {l : Nat} {env : PySem.Env} (h : notComp e = true) : swapsWithSole [t] e l env = pure false := by
  cases e <;> first | rfl | (simp [notComp] at h)
theorem ss_ex (hc : notComp e = true) (h : PE X e (rdE X.g W da)) : PS X (.Expr e pos) (rdS X.g W fun env os => (da env os).toSR env fun _ os1 => .nx env os1) := by
  refine PS.imp (ps_expr h (sw_no hc)) ?_
  rintro D σ H ⟨ρ, env, os, hs, he, g⟩
  exact ⟨ρ, env, os, hs, he, (GivesS.expr he g).imp fun v ρ1 os1 H1 e1 s1 k v' rv => k ρ1 H1 σ Ext.refl s1 (he.ext e1)⟩
def asgF (t : T) (v : PV) (env : Env) (os : OS) : SR := match asgP t v env with
    | some env' => .nx env' os
    | none => .bad
/-- name = value -/
theorem set_imp {mg : G} {i : Nat} {D : Ends} {σ : L2.St} {H : Hp} (h : rdS mg W (fun env os => (da env os).toSR env fun v os1 => asgF (.n i) v env os1) D σ H) : tAsg (rdE mg W da) (gName i) D σ H := by
  obtain ⟨ρ, env, os, hs, he, g⟩ := h
  refine ⟨ρ, env, os, hs, he, (GivesS.expr he g).imp fun v ρ1 os1 H1 e1 s1 k v' rv => ?_⟩
  unfold asgF asgP at k
  simp only at k
  split at k
  · rename_i env' q
    split at q
    · cases q
      exact k ρ1 H1 _ Ext.refl s1 ((he.ext e1).set rv)
    · cases q
  · exact False.elim k
theorem ss_set {i : Nat} {x : Str} {p : Pos} (hN : X.N.Nodup) (hi : X.N[i]? = some x) (hx : Loc X.env.scope x) (hf : X.fn x = true ∨ X.env.scope.names.lookup x = some .local) (hc : swapsWith e (some (.Name x p)) pos.line X.env = pure false) (h : PE X e (rdE X.g W da)) :
    PS X (.Assign [.Name x p] e pos) (rdS X.g W fun env os => (da env os).toSR env fun v os1 => asgF (.n i) v env os1) :=
  PS.imp (ps_set hN hi hx h hc hf) fun _ _ _ z => set_imp z
/-- a tree into a tuple of targets -/
theorem sws_tup {tes : List Expr} {k l : Nat} {p : Pos} {e : Expr} {env : PySem.Env} : swapsWithSole [.Tuple tes k p] e l env = pure false := by
  unfold swapsWithSole swapsWith
  cases e <;> rfl
theorem ss_asg {ts : List T} {tes : List Expr} {k : Nat} {p : Pos} (hg : PG X (.Tuple tes k p) (rdG X.g (.t ts))) (hw : swappedStores [.Tuple tes k p] e X.env = pure none) (h : PE X e (rdE X.g W da)) :
    PS X (.Assign [.Tuple tes k p] e pos) (rdS X.g W fun env os => (da env os).toSR env fun v os1 => asgF (.t ts) v env os1) := by
  refine PS.imp (ps_asg h hg sws_tup hw rfl) ?_
  rintro D σ H ⟨ρ, env, os, hs, he, g⟩
  refine ⟨ρ, env, os, hs, he, (GivesS.expr he g).imp fun v ρ1 os1 H1 e1 s1 k v' rv => ?_⟩
  unfold asgF asgP at k
  simp only at k
  cases v with
  | ref z => exact False.elim k
  | iv x =>
    simp only at k
    split at k
    · rename_i env' q
      exact ⟨ρ1, env, os1, x, env', s1, he.ext e1, rv, q, fun σ' n' _ => k ρ1 H1 σ' Ext.refl s1 n'⟩
    · exact False.elim k
def setAllF (is : List Nat) (vs : List PV) (env : Env) (os : OS) : SR := match setAll is vs env with
    | some env' => .nx env' os
    | none => .bad
variable {dp : Env → OS → Res (List PV)} {a b c : Expr}
/-- a, b = x, y by the swap -/
theorem ss_par2 {i j : Nat} {x y : Str} {px py pt : Pos} {kt k2 pt2} (hc : X.calm = true) (hN : X.N.Nodup) (hi : X.N[i]? = some x) (hj : X.N[j]? = some y) (hij : i ≠ j)
    (hx : X.env.scope.names.lookup x = some .local) (hy : X.env.scope.names.lookup y = some .local) (ha : PA X [a, b] (rdP X.g W dp))
    (hw : swappedStores [.Tuple [.Name x px, .Name y py] kt pt] (.Tuple [a, b] k2 pt2) X.env = pure (some [x, y])) :
    PS X (.Assign [.Tuple [.Name x px, .Name y py] kt pt] (.Tuple [a, b] k2 pt2) pos) (rdS X.g W fun env os => (dp env os).toSR env fun vs os1 => setAllF [i, j] vs env os1) := by
  refine PS.imp (ps_par hc hN hi hj hij hx hy ha hw rfl) ?_
  rintro D σ H ⟨ρ, env, os, hs, he, g⟩
  refine ⟨ρ, env, os, hs, he, (GivesS.expr he g).imp fun vs ρ1 os1 H1 e1 s1 k ws rv => ?_⟩
  unfold setAllF at k
  split at k
  · rename_i env' q
    cases rv with
    | nil => simp [setAll] at q
    | cons r1 rv =>
      cases rv with
      | nil => simp [setAll] at q
      | cons r2 rv =>
        cases rv with
        | cons => simp [setAll] at q
        | nil =>
          simp only [setAll] at q
          split at q
          · split at q
            · cases q
              exact ⟨_, _, rfl, k ρ1 H1 _ Ext.refl s1 (((he.ext e1).set r1).set r2)⟩
            · cases q
          · cases q
  · exact False.elim k
theorem ss_par3 {i j l : Nat} {x y z : Str} {px py pz pt : Pos} {kt k2 pt2} (hc : X.calm = true) (hN : X.N.Nodup) (hi : X.N[i]? = some x) (hj : X.N[j]? = some y) (hl : X.N[l]? = some z) (hij : i ≠ j) (hil : i ≠ l) (hjl : j ≠ l)
    (hx : X.env.scope.names.lookup x = some .local) (hy : X.env.scope.names.lookup y = some .local) (hz : X.env.scope.names.lookup z = some .local) (ha : PA X [a, b, c] (rdP X.g W dp))
    (hw : swappedStores [.Tuple [.Name x px, .Name y py, .Name z pz] kt pt] (.Tuple [a, b, c] k2 pt2) X.env = pure (some [x, y, z])) :
    PS X (.Assign [.Tuple [.Name x px, .Name y py, .Name z pz] kt pt] (.Tuple [a, b, c] k2 pt2) pos) (rdS X.g W fun env os => (dp env os).toSR env fun vs os1 => setAllF [i, j, l] vs env os1) := by
  refine PS.imp (ps_par3 hc hN hi hj hl hij hil hjl hx hy hz ha hw rfl) ?_
  rintro D σ H ⟨ρ, env, os, hs, he, g⟩
  refine ⟨ρ, env, os, hs, he, (GivesS.expr he g).imp fun vs ρ1 os1 H1 e1 s1 k ws rv => ?_⟩
  unfold setAllF at k
  split at k
  · rename_i env' q
    cases rv with
    | nil => simp [setAll] at q
    | cons r1 rv =>
      cases rv with
      | nil => simp [setAll] at q
      | cons r2 rv =>
        cases rv with
        | nil => simp [setAll] at q
        | cons r3 rv =>
          cases rv with
          | cons => simp [setAll] at q
          | nil =>
            simp only [setAll] at q
            split at q
            · split at q
              · split at q
                · cases q
                  exact ⟨_, _, _, rfl, k ρ1 H1 _ Ext.refl s1 ((((he.ext e1).set r1).set r2).set r3)⟩
                · cases q
              · cases q
            · cases q
  · exact False.elim k
/-- several names from a written tuple, one after another -/
def gNames : List Nat → TGs
  | [] => gNil
  | i :: is => gCons (gName i) (gNames is)
inductive NamesOk (X : Cx) : List Nat → List Expr → Prop
  | nil : NamesOk X [] []
  | cons {i : Nat} {is : List Nat} {x : Str} {p : Pos} {es : List Expr} : X.N[i]? = some x → Loc X.env.scope x → (X.fn x = true ∨ X.env.scope.names.lookup x = some .local) → NamesOk X is es → NamesOk X (i :: is) (.Name x p :: es)
theorem pgs_names (hN : X.N.Nodup) : ∀ {is : List Nat} {es : List Expr}, NamesOk X is es → PGs X es (gNames is)
  | _, _, .nil => pgs_nil
  | _, _, .cons h1 h2 h3 h4 => pgs_cons (pg_name hN h1 h2 h3) (pgs_names hN h4) rfl
theorem names_star : ∀ {is : List Nat} {es : List Expr}, NamesOk X is es → es.all notStar = true ∧ es.length = is.length
  | _, _, .nil => ⟨rfl, rfl⟩
  | _, _, .cons h1 h2 h3 h4 => ⟨by simp only [List.all_cons, (names_star h4).1]; rfl, by simp [(names_star h4).2]⟩
theorem names_go {mg : G} {ρ : Rho} {os : OS} {H : Hp} {Q : L2.St → Hp → Prop} : ∀ {is : List Nat} {vs : List PV} {ws : List V} {env env' : Env} {σ : L2.St}, EnvOk mg ρ os H env σ → RepPs mg ρ os H vs ws → setAll is vs env = some env' → (∀ σ', EnvOk mg ρ os H env' σ' → Q σ' H) → gNames is ws σ H Q ∧ ws.length = is.length
  | [], _, _, _, _, _, he, .nil, e, q => by
    simp only [setAll] at e
    cases e
    exact ⟨⟨rfl, q _ he⟩, rfl⟩
  | [], _, _, _, _, _, he, .cons _ _, e, q => by simp [setAll] at e
  | _ :: _, _, _, _, _, _, he, .nil, e, q => by simp [setAll] at e
  | i :: is, _, _, _, _, _, he, .cons r rr, e, q => by
    simp only [setAll] at e
    split at e
    · obtain ⟨h1, h2⟩ := names_go (he.set r) rr e q
      exact ⟨⟨_, _, rfl, h1⟩, by simp [h2]⟩
    · cases e
theorem ss_parN {is : List Nat} {tes : List Expr} {kt : Nat} {pt : Pos} {k2 : Nat} {pt2 : Pos} (hc : X.calm = true) (hN : X.N.Nodup) (hn : NamesOk X is tes) (ha : PA X es (rdP X.g W dp))
    (hw : swappedStores [.Tuple tes kt pt] (.Tuple es k2 pt2) X.env = pure none) (hz : Nat.ble tes.length 16777216 = true) :
    PS X (.Assign [.Tuple tes kt pt] (.Tuple es k2 pt2) pos) (rdS X.g W fun env os => (dp env os).toSR env fun vs os1 => setAllF is vs env os1) := by
  obtain ⟨hst, hln⟩ := names_star hn
  refine PS.imp (ps_asg (pe_tup ha) (pg_tup (n := is.length) hc (pgs_names hN hn) ((asg_len hst).trans hln) (asg_find hst)) rfl hw rfl) ?_
  rintro D σ H ⟨ρ, env, os, hs, he, g⟩
  refine ⟨ρ, env, os, hs, he, (GivesS.expr he g).imp fun vs ρ1 os1 H1 e1 s1 k ws rv => ?_⟩
  unfold setAllF at k
  split at k
  · rename_i env' q
    have hl : ws.length = is.length := (names_go (Q := fun _ _ => True) (he.ext e1) rv q fun _ _ => trivial).2
    refine ⟨?_, fun p hp => ?_⟩
    · rw [hl, ← hln]
      exact szOk_le hz
    · have ef : Ext ρ1 os1 H1 ρ1 os1 (upd H1 p (.tup ws)) := ext_fresh hp
      exact ⟨p, ws, rfl, SqT.of upd_same, hl, (names_go ((he.ext e1).ext ef) (rv.ext ef) q fun σ' n' => k ρ1 _ σ' ef (s1.fresh hp) n').1⟩
  · exact False.elim k
theorem ss_sub {o i : Expr} {p : Pos} (ho : PE X o (rdE X.g W da)) (hi : PE X i (rdE X.g W db)) (hix : ∀ v, assign (.Subscript o i p) X.env v = (do
      let ov ← holding [v] (eval o X.env)
      let iv ← holding [v, ov] (eval i X.env)
      standAt p
      holding [v, ov, iv] (setItem ov iv v)
      release [v, ov, iv] [])) (hc : notComp e = true) (hsw : swappedStores [.Subscript o i p] e X.env = pure none) (he : PE X e (rdE X.g W dc)) :
    PS X (.Assign [.Subscript o i p] e pos) (rdS X.g W fun env os => (dc env os).toSR env fun v os1 => (match v with
    | .iv z => (da env os1).toSR env fun x os2 => (db env os2).toSR env fun y os3 => (match setF x y z os3 with
      | some os4 => .nx env os4
      | none => .bad)
    | .ref _ => .bad)) := by
  refine PS.imp (ps_asg he (pg_sub ho hi set_list hix) (sws_no hc) hsw rfl) ?_
  rintro D σ H ⟨ρ, env, os, hs, hn, g⟩
  refine ⟨ρ, env, os, hs, hn, (GivesS.expr hn g).imp fun v ρ1 os1 H1 e1 s1 k v' rv => ?_⟩
  cases v with
  | ref z => exact False.elim k
  | iv z =>
    have n1 := hn.ext e1
    refine ⟨ρ1, env, os1, s1, n1, (GivesS.expr n1 k).imp fun x ρ2 os2 H2 e2 s2 k2 x' rx => ?_⟩
    have n2 := n1.ext e2
    refine ⟨ρ2, env, os2, s2, n2, (GivesS.expr n2 k2).imp fun y ρ3 os3 H3 e3 s3 k3 y' ry => ?_⟩
    have n3 := n2.ext e3
    split at k3
    · rename_i os4 q
      exact set_gives (K := fun _ _ _ => True) s3 (rx.ext e3) ry (Rep.ext (Rep.ext rv e2) e3) q fun H' e4 s4 => k3 ρ3 H' σ e4 s4 (n3.ext e4)
    · exact False.elim k3
end
end DP

set_option Elab.async false
set_option linter.all false
set_option maxRecDepth 100000
set_option maxHeartbeats 1000000
/-! Ev13: augmented stores, branches, loops, the ghost. -/
namespace DP
open PySem PySem.Spec L2

def augF (i : Nat) (op : Operator) (de : Env → OS → Res PV) : Env → OS → SR := fun env os => (match env[i]? with
    | some (some (.iv x)) => (de env os).toSR env fun v os1 => (match v with
      | .iv y => (match augIV op x y with
        | some z => .nx (env.set i (some (.iv z))) os1
        | none => .bad)
      | _ => .bad)
    | _ => .bad)
def ifF (dc : Env → OS → Res PV) (da db : Env → OS → SR) : Env → OS → SR := fun env os => (dc env os).toSR env fun v os1 => (match v with
    | .iv (.bl true) => da env os1
    | .iv (.bl false) => db env os1
    | _ => .bad)
def forTurn (t : T) (db : Env → OS → SR) : IV → Env → OS → SR := fun x env os => match asgT t x env with
    | some env' => db env' os
    | none => .bad
def forF (t : T) (di : Env → OS → Res (List IV)) (db : Env → OS → SR) : Env → OS → SR := fun env os => (di env os).toSR env fun xs os1 => forGo (forTurn t db) xs env os1
def frzF (i : Nat) : Env → OS → SR := fun env os => (match env[i]? with
    | some (some (.ref k)) => (match os[k]? with
      | some (.lst xs) => .nx (env.set i (some (.iv (.lst xs)))) (os.set k .dead)
      | _ => .bad)
    | _ => .bad)
section
variable {X : Cx} {W : WX} {rest : List Stmt} {e c : Expr} {a b : List Stmt} {d1 d2 : Env → OS → SR} {da db dc : Env → OS → Res PV} {pos p : Pos}
theorem ss_aug {i : Nat} {x : Str} {op : Operator} (ho : op = .Add ∨ op = .Sub) (hN : X.N.Nodup) (hi : X.N[i]? = some x) (hx : Loc X.env.scope x) (hf : X.fn x = true ∨ X.env.scope.names.lookup x = some .local) (h : PE X e (rdE X.g W da)) :
    PS X (.AugAssign (.Name x p) op e pos) (rdS X.g W (augF i op da)) := by
  have go : ∀ {f : Int → Int → Int} {D : Ends} {σ : L2.St} {H : Hp}, (∀ x y z, augIV op x y = some z → ∃ a b, x = .int a ∧ y = .int b ∧ z = .int (f a b)) → rdS X.g W (augF i op da) D σ H → tAug i (rdE X.g W da) (ipI f) D σ H := by
    intro f D σ H hop h
    obtain ⟨ρ, env, os, hs, he, g⟩ := h
    unfold augF at g
    split at g
    · rename_i xx q
      obtain ⟨v, hv, rv⟩ := he.at_ i _ q
      refine ⟨v, hv, ρ, env, os, hs, he, (GivesS.expr he g).imp fun y ρ1 os1 H1 e1 s1 k y' ry => ?_⟩
      cases y with
      | ref z => exact False.elim k
      | iv y =>
        simp only at k
        split at k
        · rename_i z hz
          obtain ⟨a1, b1, rfl, rfl, rfl⟩ := hop _ _ _ hz
          cases rv
          cases ry
          exact ⟨_, _, rfl, rfl, k ρ1 H1 _ Ext.refl s1 ((he.ext e1).set (x := .iv (.int (f a1 b1))) (Rep.int _))⟩
        · exact False.elim k
    · exact False.elim g
  rcases ho with rfl | rfl
  · refine PS.imp (ps_aug hN hi hx h ip_add hf) fun D σ H z => go (fun x y z h => ?_) z
    unfold augIV at h
    split at h <;> first | cases h | skip
    · exact ⟨_, _, rfl, rfl, rfl⟩
    · contradiction
  · refine PS.imp (ps_aug hN hi hx h ip_sub hf) fun D σ H z => go (fun x y z h => ?_) z
    unfold augIV at h
    split at h <;> first | cases h | skip
    · contradiction
    · exact ⟨_, _, rfl, rfl, rfl⟩
theorem ss_if (hc : PT X c (rdT X.g W dc)) (ha : PSs X a (rdS X.g W d1)) (hb : PSs X b (rdS X.g W d2)) : PS X (.If c a b pos) (rdS X.g W (ifF dc d1 d2)) := by
  refine PS.imp (ps_if hc ha hb) ?_
  rintro D σ H ⟨ρ, env, os, hs, he, g⟩
  refine ⟨ρ, env, os, hs, he, (GivesS.expr he g).imp fun v ρ1 os1 H1 e1 s1 k => ?_⟩
  split at k
  · exact ⟨true, rfl, iteT ⟨ρ1, env, os1, s1, he.ext e1, k⟩⟩
  · exact ⟨false, rfl, iteF ⟨ρ1, env, os1, s1, he.ext e1, k⟩⟩
  · exact False.elim k
theorem ss_while (hp : PassesOwn (model X.prog X.w) X.A X.env X.xe) (hc : PT X c (rdT X.g W dc)) (hb : PSs X b (rdS X.g W d1)) : PS X (.While c b [] pos) (rdS X.g W fun env os => whlGo dc d1 WF env os) := by
  refine PS.imp (ps_while hp hc hb) ?_
  rintro D σ H ⟨ρ, env, os, hs, he, g⟩
  refine ⟨fun m σ H => ∃ ρ env os, StOk X.g ρ H os ∧ EnvOk X.g ρ os H env σ ∧ GivesS X.g W D ρ os H (whlGo dc d1 m env os), ⟨WF, ρ, env, os, hs, he, g⟩, ?_⟩
  rintro m σ H ⟨ρ, env, os, hs, he, g⟩
  cases m with
  | zero => exact False.elim g
  | succ n =>
    simp only [whlGo] at g
    refine ⟨ρ, env, os, hs, he, (GivesS.expr he g).imp fun v ρ1 os1 H1 e1 s1 k => ?_⟩
    have n1 := he.ext e1
    split at k
    · refine ⟨true, rfl, iteT ⟨fun σ H => ∃ ρ env os, StOk X.g ρ H os ∧ EnvOk X.g ρ os H env σ ∧ GivesS X.g W D ρ os H (whlGo dc d1 n env os), fun σ' H' z => ⟨n, Nat.lt_succ_self _, z⟩, ρ1, env, os1, s1, n1, ?_⟩⟩
      cases q : d1 env os1 with
      | nx env' os' => rw [q] at k; exact fun ρ' H' σ' e' s' n' => ⟨ρ', env', os', s', n', GivesS.step e' k⟩
      | ct env' os' => rw [q] at k; exact fun ρ' H' σ' e' s' n' => ⟨ρ', env', os', s', n', GivesS.step e' k⟩
      | bk env' os' => rw [q] at k; exact k
      | rt v os' => rw [q] at k; exact k
      | exc c ns vs env' os' => rw [q] at k; exact k
      | bad => rw [q] at k; exact k
    · exact ⟨false, rfl, iteF (k ρ1 H1 σ Ext.refl s1 n1)⟩
    · exact False.elim k
theorem ss_for {tg iter : Expr} {t : T} {di : Env → OS → Res (List IV)} (hp : PassesOwn (model X.prog X.w) X.A X.env X.xe) (hc : X.calm = true) (hi : PI X tg iter (rdI X.g W di)) (hg : PG X tg (rdG X.g t)) (hb : PSs X b (rdS X.g W d1))
    (hs : ∀ x, foldedSetIterable iter X.env x = pure x) : PS X (.For tg iter b [] pos) (rdS X.g W (forF t di d1)) := by
  refine PS.imp (ps_for hp hc hi hg hb hs) ?_
  rintro D σ H ⟨ρ, env, os, hs, he, g⟩
  refine ⟨ρ, env, os, hs, he, (GivesS.expr he g).imp fun xs ρ1 os1 H1 e1 s1 k J wk => ?_⟩
  let Nw : Nat → L2.St → Hp → Prop := fun i σ H => ∃ ρi env osi, StOk X.g ρi H osi ∧ EnvOk X.g ρi osi H env σ ∧ Ext ρ1 os1 H1 ρi osi H ∧ GivesS X.g W D ρi osi H (forGo (forTurn t d1) (xs.drop i) env osi)
  refine ⟨fun i m σ H => m = xs.length - i ∧ i ≤ xs.length ∧ Nw i σ H, ⟨xs.length, by simp, Nat.zero_le _, ρ1, env, os1, s1, he.ext e1, Ext.refl, by simpa using k⟩, ?_⟩
  rintro i m σ Hi ⟨rfl, hi, ρi, env, osi, si, ni, ei, gk⟩
  by_cases hlt : i < xs.length
  · have hx : xs[i]? = some xs[i] := by simp [hlt]
    obtain ⟨go, yl⟩ := wk.go i _ ρi osi Hi hx ei si
    refine .inr ⟨go, Nw (i + 1), fun σ' H' n => ⟨xs.length - (i + 1), by omega, rfl, hlt, n⟩, fun v H2 yd => ?_⟩
    obtain ⟨e2, s2, rv⟩ := yl v H2 yd
    have dr : xs.drop i = xs[i] :: xs.drop (i + 1) := by rw [List.drop_eq_getElem_cons hlt]
    rw [dr] at gk
    simp only [forGo] at gk
    have ei2 := ei.trans e2
    have n2 := ni.ext e2
    have gk2 := GivesS.step e2 gk
    cases ea : asgT t xs[i] env with
    | none =>
      simp only [forTurn, ea] at gk2
      exact False.elim gk2
    | some env' =>
      simp only [forTurn, ea] at gk2
      refine ⟨ρi, env, osi, xs[i], env', s2, n2, rv, ea, fun σ2 he2 chg => ⟨ρi, env', osi, s2, he2, ?_⟩⟩
      cases q : d1 env' osi with
      | nx env2 os' => rw [q] at gk2; exact fun ρ' H' σ' e' s' n' => ⟨ρ', env2, os', s', n', ei2.trans e', GivesS.step e' gk2⟩
      | ct env2 os' => rw [q] at gk2; exact fun ρ' H' σ' e' s' n' => ⟨ρ', env2, os', s', n', ei2.trans e', GivesS.step e' gk2⟩
      | bk env2 os' => rw [q] at gk2; exact gk2
      | rt v os' => rw [q] at gk2; exact gk2
      | exc c ns vs env' os' => rw [q] at gk2; exact gk2
      | bad => rw [q] at gk2; exact gk2
  · have e : i = xs.length := by omega
    subst e
    refine .inl ⟨wk.stop ρi osi Hi ei si, ?_⟩
    rw [List.drop_length] at gk
    exact gk ρi Hi σ Ext.refl si ni
theorem ss_frz {i : Nat} (h : PSs X rest (rdS X.g W d2)) : PSs X rest (rdS X.g W fun env os => (frzF i env os).then d2) := by
  refine PSs.imp h ?_
  rintro D σ H ⟨ρ, env, os, hs, he, g⟩
  dsimp only at g
  unfold frzF at g
  split at g
  · rename_i k q
    split at g
    · rename_i xs qo
      obtain ⟨v, hv, p, hp, rfl⟩ := he.at_ i _ q
      have ek : Ext ρ os H ρ (os.set k .dead) H := ext_kill
      obtain ⟨_, vs, h5, h6⟩ := hs.obj _ _ _ hp qo
      have rl : RepP X.g ρ (os.set k .dead) H (.iv (.lst xs)) (.ref p.1) := Rep.lst h5 (hs.not_live_dead hp List.mem_cons_self) (h6.ext ek)
      have en : EnvOk X.g ρ (os.set k .dead) H (env.set i (some (.iv (.lst xs)))) σ := by
        have := (he.ext ek).set (i := i) rl
        have e : σ.set i (some (.ref p.1)) = σ := by
          refine List.ext_getElem? fun j => ?_
          by_cases hj : i = j
          · subst hj
            rw [List.getElem?_set_self (List.getElem?_eq_some_iff.mp hv).1, hv]
          · rw [List.getElem?_set_ne hj]
        rw [e] at this
        exact this
      exact ⟨ρ, _, _, hs.kill k, en, GivesS.step ek g⟩
    · exact False.elim g
  · exact False.elim g
end
end DP

set_option Elab.async false
set_option linter.all false
set_option maxRecDepth 100000
set_option maxHeartbeats 1000000
/-! Ev14: functions where nothing is being shown (guards empty). -/
namespace DP
open PySem PySem.Spec L2

section
variable (P : Program) (w : World) (K : PySem.W.Frag) (mg : Str → Option Value) (base : Heap) (CX : CXT)
structure FnG (k : Nat) (f : Addr) (fd : FuncData) (ps : List Str) (sp : Sp) : Prop where
  cnt : ∀ a b c d, sp a b c d → a.length = ps.length
  go : ∀ A fr s H ar us vs Q E, A.guards = some [] → Room k A → Env0 P w K mg base A fr s H → BindsTo s fd ar (ps.zip us) → Vals vs us → sp vs H Q E →
    codeAny (model P w) A (.call (.ref f) ar) (CR CX fr P w H s Q E) s
end
section
variable {P : Program} {w : World} {K : PySem.W.Frag} {mg : Str → Option Value} {base : Heap} {CX : CXT} {k : Nat} {f : Addr}
theorem FnG.imp {fd : FuncData} {ps : List Str} {sp sq : Sp} (F : FnG P w K mg base CX k f fd ps sp) (h : ∀ a b c d, sq a b c d → sp a b c d) : FnG P w K mg base CX k f fd ps sq :=
  ⟨fun a b c d q => F.cnt a b c d (h a b c d q), fun A fr s H ar us vs Q E g r e b v q => F.go A fr s H ar us vs Q E g r e b v (h _ _ _ _ q)⟩
theorem FnG.of {fd : FuncData} {ps : List Str} {sp : Sp} (F : FnOk P w K mg base CX k f fd ps sp) : FnG P w K mg base CX k f fd ps sp :=
  ⟨F.len, fun A fr s H ar us vs Q E _ r e b v q => F.run A fr s H ar us vs Q E r e b v q⟩
theorem FnG.up {fd : FuncData} {ps : List Str} {sp : Sp} {j : Nat} (F : FnG P w K mg base CX j f fd ps sp) (h : j ≤ k) : FnG P w K mg base CX k f fd ps sp :=
  ⟨F.cnt, fun A fr s H ar us vs Q E g r e b v q => F.go A fr s H ar us vs Q E g (r.mono h) e b v q⟩
/-- a def by its body -/
theorem FnG.body {name qual : Str} {params : Arguments} {body : List Stmt} {sc : Scope} {v1 v2 v3 v4 cdv v5 cls : Value} {an od : Option Addr} {sl : Array (Option Value)} {N ps : List Str} {sp : Sp}
    (lk : K.lookup f = some ⟨cls, od, .func (PySem.W.fnOf name qual params body sc v1 v2 v3 v4 an cdv v5), sl⟩) (hcd : PySem.W.codeIn K cdv qual = true) (S : FnScope N ps sc) (cnt : ∀ a b c d, sp a b c d → a.length = ps.length)
    (hb : ∀ A fr s H vs Q E, (A.deeper (PyProof.Rows.envOfC qual sc s.heap.objs.size f cdv)).guards = some [] → Room k (A.deeper (PyProof.Rows.envOfC qual sc s.heap.objs.size f cdv)) → sp vs H Q E →
      ∃ t, PSs (cxOf CX P w K mg base N qual sc f cdv A fr s H E) body t ∧ t { nx := fun _ H2 => Q .non H2, rt := Q } (start N vs) H) :
    FnG P w K mg base CX (k + 1) f (PySem.W.fnOf name qual params body sc v1 v2 v3 v4 an cdv v5) ps sp where
  cnt := cnt
  go := by
    intro A fr s H ar us vs Q E gd rm env bd vv q
    have kin : K.In s.heap := env.mod.kin.keeps fun b o z => (env.bs b o z).1
    have nl : s.heap.NoLimit := env.mod.nolimit.keeps fun b o z => (env.bs b o z).1
    have kinds : ∀ y ∈ ps.zip us, sc.names.lookup y.1 = some .local ∨ (sc.names.lookup y.1 = some .cell ∧ ((cellsFrom (s.heap.objs.size + 1) sc.names []).lookup y.1).isSome = true) := by
      rintro ⟨n, v⟩ hy
      exact (S.par n (List.of_mem_zip hy).1).elim Or.inl fun z => .inr ⟨z, PySem.W.cellsFrom_some _ _ _ (.inl z)⟩
    refine codeAny_call_function rm.depth (kin _ _ lk) rfl S.co S.gen rfl (PySem.W.codeRec_of kin hcd) (bd _ _ _ _ (wpAny_newFunctionEnv_cells S.kind kinds ?_))
    rintro _ rfl s1 x
    obtain ⟨t, ht, hq⟩ := hb A fr s H vs Q E gd (rm.deeper _) q
    refine ⟨nl.keeps x.toInCall.keep, codeAny_func (wpAny_mono (ht.run [] s1 _ H _ (inv_start S rm.hd env (cnt _ _ _ _ q) vv x) hq) ?_ fun _ _ z => z)⟩
    rintro (_ | u | _ | _) s2 hs
    · obtain ⟨σ2, H2, J, z⟩ := hs
      exact ⟨.non, H2, J.os, J.bare, J.base, J.hok, rfl, z⟩
    all_goals first
      | exact False.elim hs.choose_spec.choose_spec.2
      | skip
    obtain ⟨v, σ2, H2, J, rv, z⟩ := hs
    exact ⟨v, H2, J.os, J.bare, J.base, J.hok, rv, z⟩
end
end DP

set_option Elab.async false
set_option linter.all false
set_option maxRecDepth 100000
set_option maxHeartbeats 1000000
/-! Ev15: a call, seen from the caller. -/
namespace DP
open PySem PySem.Spec L2

/-! ### lists -/
theorem objsAt_spec {os : OS} : ∀ {ks : List Nat} {bs : OS}, objsAt os ks = some bs → bs.length = ks.length ∧ ∀ (i k : Nat), ks[i]? = some k → ∃ o : OB, os[k]? = some o ∧ bs[i]? = some o ∧ o ≠ OB.dead
  | [], bs, h => by
    simp only [objsAt] at h
    cases h
    exact ⟨rfl, fun i k e => by simp at e⟩
  | k :: ks, bs, h => by
    simp only [objsAt] at h
    obtain ⟨o, ho, h⟩ := Option.bind_eq_some_iff.mp h
    split at h
    · rename_i hd
      obtain ⟨bs', hb, rfl⟩ := Option.map_eq_some_iff.mp h
      obtain ⟨h1, h2⟩ := objsAt_spec hb
      refine ⟨by simp [h1], fun i k' e => ?_⟩
      cases i with
      | zero =>
        simp at e
        subst e
        exact ⟨o, ho, rfl, fun z => by subst z; simp [notDead] at hd⟩
      | succ i =>
        simp at e
        obtain ⟨o', a, b, c⟩ := h2 i k' e
        exact ⟨o', a, by simpa using b, c⟩
    · cases h
theorem borKs_nodup : ∀ {bor : List Bool} {vs : List PV} {ks : List Nat}, borKs bor vs = some ks → ks.Nodup
  | [], [], ks, h => by simp only [borKs] at h; cases h; exact List.nodup_nil
  | [], _ :: _, ks, h => by simp [borKs] at h
  | true :: bs, [], ks, h => by simp [borKs] at h
  | false :: bs, [], ks, h => by simp [borKs] at h
  | true :: bs, .iv _ :: vs, ks, h => by simp [borKs] at h
  | true :: bs, .ref k :: vs, ks, h => by
    simp only [borKs] at h
    obtain ⟨ks', hk, h⟩ := Option.bind_eq_some_iff.mp h
    split at h
    · cases h
    · rename_i hc
      cases h
      exact List.nodup_cons.mpr ⟨by simpa using hc, borKs_nodup hk⟩
  | false :: bs, v :: vs, ks, h => by
    simp only [borKs] at h
    exact borKs_nodup h
theorem putBack_length : ∀ {ks : List Nat} {os r : OS}, (putBack os ks r).length = os.length
  | [], os, r => by cases r <;> simp [putBack]
  | k :: ks, os, [] => by simp [putBack]
  | k :: ks, os, o :: r => by simp [putBack, putBack_length (ks := ks)]
theorem putBack_out : ∀ {ks : List Nat} {os r : OS} {j : Nat}, j ∉ ks → (putBack os ks r)[j]? = os[j]?
  | [], os, r, j, h => by cases r <;> simp [putBack]
  | k :: ks, os, [], j, h => by simp [putBack]
  | k :: ks, os, o :: r, j, h => by
    rw [List.mem_cons, not_or] at h
    simp only [putBack]
    rw [putBack_out h.2, List.getElem?_set_ne (fun e => h.1 e.symm)]
theorem putBack_in : ∀ {ks : List Nat} {os r : OS} {i k : Nat} {o : OB}, ks.Nodup → ks[i]? = some k → r[i]? = some o → k < os.length → (putBack os ks r)[k]? = some o
  | [], os, r, i, k, o, nd, h, e, l => by simp at h
  | k' :: ks, os, [], i, k, o, nd, h, e, l => by simp at e
  | k' :: ks, os, o' :: r, 0, k, o, nd, h, e, l => by
    simp at h e
    subst h e
    simp only [putBack]
    rw [putBack_out (List.nodup_cons.mp nd).1, List.getElem?_set_self l]
  | k' :: ks, os, o' :: r, i + 1, k, o, nd, h, e, l => by
    simp only [putBack]
    exact putBack_in (List.nodup_cons.mp nd).2 (by simpa using h) (by simpa using e) (by simpa using l)
theorem nd_inj : ∀ {ks : List Nat} {i j k : Nat}, ks.Nodup → ks[i]? = some k → ks[j]? = some k → i = j
  | [], i, j, k, _, h, _ => by simp at h
  | a :: ks, 0, 0, k, _, _, _ => rfl
  | a :: ks, 0, j + 1, k, nd, h, h' => by
    simp at h h'
    subst h
    exact absurd (List.mem_of_getElem? h') (List.nodup_cons.mp nd).1
  | a :: ks, i + 1, 0, k, nd, h, h' => by
    simp at h h'
    subst h'
    exact absurd (List.mem_of_getElem? h) (List.nodup_cons.mp nd).1
  | a :: ks, i + 1, j + 1, k, nd, h, h' => by
    exact congrArg (· + 1) (nd_inj (i := i) (j := j) (List.nodup_cons.mp nd).2 (by simpa using h) (by simpa using h'))
/-- the objects that are lent to be read -/
def snpKs : List Bool → List PV → List Nat
  | false :: bs, .ref k :: vs => k :: snpKs bs vs
  | _ :: bs, _ :: vs => snpKs bs vs
  | _, _ => []
theorem snpKs_nil : ∀ {bs : List Bool} {vs : List PV}, snapd bs vs = false → snpKs bs vs = []
  | [], _, _ => by simp [snpKs]
  | true :: bs, [], _ => by simp [snpKs]
  | false :: bs, [], _ => by simp [snpKs]
  | false :: bs, .ref k :: vs, h => by simp [snapd] at h
  | false :: bs, .iv k :: vs, h => by simp only [snapd, snpKs] at h ⊢; exact snpKs_nil h
  | true :: bs, v :: vs, h => by
    cases v <;> simp only [snapd, snpKs] at h ⊢ <;> exact snpKs_nil h

mutual
/-- a tree without lists may be read where more lists are live -/
theorem Rep.noL {mg : G} {L L' : Addr → Prop} {H : Hp} (hl : ∀ b, L' b → L b ∨ (∃ xs, H b = some (.lst xs)) ∨ ∃ kv, H b = some (.dK kv)) : ∀ {x : IV} {v : V}, noL x = true → Rep mg L H x v → Rep mg L' H x v
  | _, _, _, .non => .non
  | _, _, _, .bl b => .bl b
  | _, _, _, .int i => .int i
  | _, _, _, .str x => .str x
  | _, _, _, .ty n => .ty n
  | _, _, h, .tup e n r => .tup e (fun z => by
      rcases hl _ z with q | ⟨_, q⟩ | ⟨_, q⟩
      · exact n q
      · rw [e] at q; cases q
      · rw [e] at q; cases q) (Reps.noL hl (by simpa [DP.noL] using h) r)
  | _, _, h, .lst _ _ _ => by simp [DP.noL] at h
  | _, _, _, .scr e n => .scr e (fun z => by
      rcases hl _ z with q | ⟨_, q⟩ | ⟨_, q⟩
      · exact n q
      · rw [e] at q; cases q
      · rw [e] at q; cases q)
  | _, _, _, .scrK h => .scrK h
  | _, _, h, .dic _ _ _ _ => by simp [DP.noL] at h
  | _, _, _, .glo h => .glo h
theorem Reps.noL {mg : G} {L L' : Addr → Prop} {H : Hp} (hl : ∀ b, L' b → L b ∨ (∃ xs, H b = some (.lst xs)) ∨ ∃ kv, H b = some (.dK kv)) : ∀ {x : List IV} {v : List V}, noLs x = true → Reps mg L H x v → Reps mg L' H x v
  | _, _, _, .nil => .nil
  | _, _, h, .cons r t => by
    simp only [noLs, Bool.and_eq_true] at h
    exact .cons (Rep.noL hl h.1 r) (Reps.noL hl h.2 t)
end
theorem Rep.sub {mg : G} {L L' : Addr → Prop} {H : Hp} (hl : ∀ b, L' b → L b) {x : IV} {v : V} (r : Rep mg L H x v) : Rep mg L' H x v := r.kp ⟨fun _ _ h _ => h, fun b l => .inl (hl b l)⟩
theorem Reps.sub {mg : G} {L L' : Addr → Prop} {H : Hp} (hl : ∀ b, L' b → L b) {x : List IV} {v : List V} (r : Reps mg L H x v) : Reps mg L' H x v := r.kp ⟨fun _ _ h _ => h, fun b l => .inl (hl b l)⟩

/-! ### the callee's start -/
section
variable {mg : G} {ρ : Rho} {os : OS} {H : Hp} {ks sn : List Nat} {bs : OS}
def InOf (ρ : Rho) (ks : List Nat) (b : Addr) : Prop := ∃ k p, k ∈ ks ∧ ρ.l[k]? = some p ∧ (b = p.1 ∨ b ∈ p.2)
def lent (ρ : Rho) (os : OS) (ks sn : List Nat) : Rho := ⟨ks.filterMap fun k => ρ.l[k]?, fun b => Live ρ os b ∧ ¬ InOf ρ ks b ∧ ¬ InOf ρ sn b⟩
theorem lent_get : ∀ {ks : List Nat}, (∀ k ∈ ks, k < ρ.l.length) → ∀ i : Nat, (ks.filterMap fun k => ρ.l[k]?)[i]? = ks[i]?.bind fun k => ρ.l[k]?
  | [], _, i => by simp
  | k :: ks, h, i => by
    have hk := List.getElem?_eq_getElem (h k List.mem_cons_self)
    rw [List.filterMap_cons, hk]
    cases i with
    | zero => exact hk.symm
    | succ i => exact lent_get (fun k' q => h k' (List.mem_cons_of_mem _ q)) i
theorem lent_len : ∀ {ks : List Nat}, (∀ k ∈ ks, k < ρ.l.length) → (ks.filterMap fun k => ρ.l[k]?).length = ks.length
  | [], _ => rfl
  | k :: ks, h => by
    have hk := List.getElem?_eq_getElem (h k List.mem_cons_self)
    rw [List.filterMap_cons, hk]
    simp [lent_len fun k' q => h k' (List.mem_cons_of_mem _ q)]
theorem lent_at (hk : ∀ k ∈ ks, k < ρ.l.length) {i : Nat} {p : Addr × List Addr} (h : (lent ρ os ks sn).l[i]? = some p) : ∃ k, ks[i]? = some k ∧ ρ.l[k]? = some p := by
  have h : (ks.filterMap fun k => ρ.l[k]?)[i]? = some p := h
  rw [lent_get hk] at h
  obtain ⟨k, a, b⟩ := Option.bind_eq_some_iff.mp h
  exact ⟨k, a, b⟩
theorem objs_lt (s : StOk mg ρ H os) (ho : objsAt os ks = some bs) : ∀ k ∈ ks, k < ρ.l.length := fun k hk => by
  obtain ⟨i, hi, e⟩ := List.getElem_of_mem hk
  obtain ⟨o, h1, _⟩ := (objsAt_spec ho).2 i k (by rw [List.getElem?_eq_getElem hi, e])
  rw [s.len]
  exact (List.getElem?_eq_some_iff.mp h1).1
theorem own_lent (s : StOk mg ρ H os) (ho : objsAt os ks = some bs) {b : Addr} (h : Own (lent ρ os ks sn) bs b) : Own ρ os b ∧ InOf ρ ks b := by
  obtain ⟨i, p, o, h1, h2, h3, h4⟩ := h
  obtain ⟨k, e1, e2⟩ := lent_at (objs_lt s ho) h1
  obtain ⟨o', e3, e4, e5⟩ := (objsAt_spec ho).2 i k e1
  exact ⟨⟨k, p, o', e2, e3, e5, h4⟩, k, p, List.mem_of_getElem? e1, e2, h4⟩
theorem own_lent' (s : StOk mg ρ H os) (ho : objsAt os ks = some bs) {b : Addr} (h : InOf ρ ks b) : Own (lent ρ os ks sn) bs b := by
  obtain ⟨k, p, hk, e2, h4⟩ := h
  obtain ⟨i, hi, e⟩ := List.getElem_of_mem hk
  have e1 : ks[i]? = some k := by rw [List.getElem?_eq_getElem hi, e]
  obtain ⟨o', e3, e4, e5⟩ := (objsAt_spec ho).2 i k e1
  refine ⟨i, p, o', ?_, e4, e5, h4⟩
  show (ks.filterMap fun k => ρ.l[k]?)[i]? = some p
  rw [lent_get (objs_lt s ho), e1]
  exact e2
theorem live_lent (s : StOk mg ρ H os) (ho : objsAt os ks = some bs) {b : Addr} (h : Live (lent ρ os ks sn) bs b) : Live ρ os b := by
  rcases h with h | h
  · exact .inl (own_lent s ho h).1
  · exact h.1
theorem StOk.there' (s : StOk mg ρ H os) {b : Addr} (h : Live ρ os b) : H b ≠ none := by
  rcases h with ⟨k, p, o, h1, _, _, h4⟩ | h
  · exact s.there k p h1 b (by simpa using h4)
  · exact s.fth b h
theorem StOk.lend (s : StOk mg ρ H os) (nd : ks.Nodup) (ho : objsAt os ks = some bs) : StOk mg (lent ρ os ks sn) H bs := by
  have hk := objs_lt s ho
  obtain ⟨hl, sp⟩ := objsAt_spec ho
  refine ⟨?_, fun i p h => ?_, fun i j p q n hi hj b hb hc => ?_, fun i p h b hb => ?_, fun i p o h h' => ?_, fun i p h b hb z => ?_, fun b hb => s.there' hb.1⟩
  · rw [hl]; exact lent_len hk
  · obtain ⟨k, e1, e2⟩ := lent_at hk h
    exact s.nd k p e2
  · obtain ⟨k, e1, e2⟩ := lent_at hk hi
    obtain ⟨k', e3, e4⟩ := lent_at hk hj
    refine s.dis k k' p q (fun e => n ?_) e2 e4 b hb hc
    subst e
    obtain ⟨l1, z1⟩ := List.getElem?_eq_some_iff.mp e1
    obtain ⟨l2, z2⟩ := List.getElem?_eq_some_iff.mp e3
    exact nd_inj nd e1 e3
  · obtain ⟨k, e1, e2⟩ := lent_at hk h
    exact s.there k p e2 b hb
  · obtain ⟨k, e1, e2⟩ := lent_at hk h
    obtain ⟨o', e3, e4, e5⟩ := sp i k e1
    rw [h'] at e4; cases e4
    exact (s.obj k p o e2 e3).kp ⟨fun _ _ h _ => h, fun b l => .inl (live_lent s ho l)⟩ fun _ _ => rfl
  · obtain ⟨k, e1, e2⟩ := lent_at hk h
    exact z.2.1 ⟨k, p, List.mem_of_getElem? e1, e2, by simpa using hb⟩
theorem rd_kind {k : Nat} {x : IV} (h : rd os (.ref k) = some x) : (∃ xs, os[k]? = some (.lst xs) ∧ x = .lst xs) ∨ ∃ kk xs, os[k]? = some (.dK kk xs) ∧ x = .dic kk xs := by
  simp only [rd] at h
  split at h
  · rename_i xs e
    cases h
    exact .inl ⟨xs, e, rfl⟩
  · rename_i a b e
    cases h
    exact .inr ⟨a, b, e, rfl⟩
  · cases h
theorem args_lend (s : StOk mg ρ H os) {ks0 sn0 : List Nat} (ho : objsAt os ks0 = some bs) : ∀ {bor : List Bool} {vs as : List PV} {us : List V} {ks : List Nat} {j : Nat}, borKs bor vs = some ks → (∀ i k, ks[i]? = some k → ks0[j + i]? = some k) → (∀ k ∈ snpKs bor vs, k ∈ sn0) →
    lendA os ks0 bor vs j = some as → RepPs mg ρ os H vs us → RepPs mg (lent ρ os ks0 sn0) bs H as us ∧ ∀ k ∈ snpKs bor vs, k ∉ ks0 ∧ ∃ x, rd os (.ref k) = some x
  | [], [], as, us, ks, j, hb, hi, hs, h, r => by
    simp only [lendA] at h
    cases h
    cases r
    exact ⟨.nil, fun k hk => by simp [snpKs] at hk⟩
  | [], _ :: _, _, _, _, _, hb, _, _, h, r => by simp [lendA] at h
  | true :: bor, [], _, _, _, _, hb, _, _, h, r => by simp [lendA] at h
  | false :: bor, [], _, _, _, _, hb, _, _, h, r => by simp [lendA] at h
  | true :: bor, .iv _ :: vs, _, _, _, _, hb, _, _, h, r => by simp [borKs] at hb
  | true :: bor, .ref k :: vs, as, us, ks, j, hb, hi, hs, h, r => by
    simp only [borKs] at hb
    obtain ⟨ks', hk, hb⟩ := Option.bind_eq_some_iff.mp hb
    split at hb
    · cases hb
    · cases hb
      simp only [lendA] at h
      obtain ⟨as', ha, rfl⟩ := Option.map_eq_some_iff.mp h
      cases r with
      | cons r rr =>
        obtain ⟨i1, i2⟩ := args_lend s ho hk (j := j + 1) (fun i k' e => by
          have := hi (i + 1) k' (by simpa using e)
          rw [show j + 1 + i = j + (i + 1) by omega]; exact this) (fun k' q => hs k' (by simpa [snpKs] using q)) ha rr
        refine ⟨.cons ?_ i1, fun k' q => i2 k' (by simpa [snpKs] using q)⟩
        obtain ⟨p, e1, e2⟩ := r
        refine ⟨p, ?_, e2⟩
        show (ks0.filterMap fun k => ρ.l[k]?)[j]? = some p
        rw [lent_get (objs_lt s ho), show ks0[j]? = some k from by simpa using hi 0 k rfl]
        exact e1
  | false :: bor, .iv x :: vs, as, us, ks, j, hb, hi, hs, h, r => by
    simp only [borKs] at hb
    simp only [lendA] at h
    obtain ⟨as', ha, rfl⟩ := Option.map_eq_some_iff.mp h
    cases r with
    | cons r rr =>
      obtain ⟨i1, i2⟩ := args_lend s ho hb hi (fun k' q => hs k' (by simpa [snpKs] using q)) ha rr
      exact ⟨.cons (Rep.sub (fun b l => live_lent s ho l) r) i1, fun k' q => i2 k' (by simpa [snpKs] using q)⟩
  | false :: bor, .ref k :: vs, as, us, ks, j, hb, hi, hs, h, r => by
    simp only [borKs] at hb
    simp only [lendA] at h
    split at h
    · cases h
    · rename_i hc
      have hc : k ∉ ks0 := by simpa using hc
      obtain ⟨x, hx, h⟩ := Option.bind_eq_some_iff.mp h
      obtain ⟨as', ha, rfl⟩ := Option.map_eq_some_iff.mp h
      cases r with
      | cons r rr =>
        have hk0 : k ∈ sn0 := hs k (by simp [snpKs])
        obtain ⟨i1, i2⟩ := args_lend s ho hb hi (fun k' q => hs k' (by simp only [snpKs]; exact List.mem_cons_of_mem _ q)) ha rr
        refine ⟨.cons ?_ i1, fun k' q => ?_⟩
        · obtain ⟨p, e1, rfl⟩ := r
          have nl : ¬ Live (lent ρ os ks0 sn0) bs p.1 := fun l => by
            rcases l with l | l
            · obtain ⟨k', p', q1, q2, q3⟩ := (own_lent s ho l).2
              exact s.dis k k' p p' (fun e => hc (e ▸ q1)) e1 q2 p.1 List.mem_cons_self (by simpa using q3)
            · exact l.2.2 ⟨k, p, hk0, e1, .inl rfl⟩
          rcases rd_kind hx with ⟨xs, e2, rfl⟩ | ⟨kk, xs, e2, rfl⟩
          · obtain ⟨_, ws, e3, e4⟩ := s.obj k p _ e1 e2
            exact Rep.lst e3 nl (e4.sub fun b l => live_lent s ho l)
          · obtain ⟨_, kvs, e3, e5, e4⟩ := s.obj k p _ e1 e2
            exact Rep.dic e3 nl e5 (e4.sub fun b l => live_lent s ho l)
        · simp only [snpKs] at q
          rcases List.mem_cons.mp q with z | z
          · subst z; exact ⟨hc, x, hx⟩
          · exact i2 k' z
end
end DP

set_option Elab.async false
set_option linter.all false
set_option maxRecDepth 100000
set_option maxHeartbeats 1000000
/-! Ev16: back from a call. -/
namespace DP
open PySem PySem.Spec L2

section
variable {mg : G} {ρ ρ' : Rho} {os osf bs : OS} {H H' : Hp} {ks sn : List Nat}
/-- a call that has ended -/
structure Back (mg : G) (ρ : Rho) (os : OS) (H : Hp) (ks sn : List Nat) (bs : OS) (ρ' : Rho) (osf : OS) (H' : Hp) : Prop where
  s : StOk mg ρ H os
  nd : ks.Nodup
  ho : objsAt os ks = some bs
  e : Ext (lent ρ os ks sn) bs H ρ' osf H'
  s' : StOk mg ρ' H' osf
  al : (osf.take bs.length).all notDead = true
  snp : ∀ k ∈ sn, k ∉ ks ∧ ∃ x, rd os (.ref k) = some x
  no : sn = [] ∨ (osf.take bs.length).all obNo = true
variable (B : Back mg ρ os H ks sn bs ρ' osf H')
include B
theorem Back.keep {b : Addr} {o : HO} (h : H b = some o) (n : ¬ InOf ρ ks b) : H' b = some o := B.e.hold b o h fun q => n (own_lent B.s B.ho q).2
theorem Back.inOwn {b : Addr} (h : InOf ρ ks b) : Own ρ os b := (own_lent B.s B.ho (own_lent' (sn := sn) B.s B.ho h)).1
theorem Back.len : bs.length ≤ osf.length := by
  rw [← B.s'.len, ← (B.s.lend (sn := sn) B.nd B.ho).len]
  obtain ⟨t, q⟩ := B.e.pre
  rw [q]
  simp
theorem Back.at {i j : Nat} {p : Addr × List Addr} (hi : ks[i]? = some j) (hp : ρ.l[j]? = some p) : ∃ o, osf[i]? = some o ∧ (osf.take bs.length)[i]? = some o ∧ o ≠ .dead ∧ ρ'.l[i]? = some p := by
  have hl := (objsAt_spec B.ho).1
  have h1 : i < ks.length := (List.getElem?_eq_some_iff.mp hi).1
  have h2 : i < bs.length := by omega
  have h3 : i < osf.length := Nat.lt_of_lt_of_le h2 B.len
  refine ⟨osf[i], by simp [h3], by rw [List.getElem?_take_of_lt h2]; simp [h3], fun z => ?_, B.e.at ?_⟩
  · have := List.all_eq_true.mp B.al osf[i] (List.mem_of_getElem? (i := i) (by rw [List.getElem?_take_of_lt h2]; simp [h3]))
    rw [z] at this
    simp [notDead] at this
  · show (ks.filterMap fun k => ρ.l[k]?)[i]? = some p
    rw [lent_get (objs_lt B.s B.ho), hi]
    exact hp
theorem Back.lt {k : Nat} (hk : k ∈ ks) : k < os.length := by rw [← B.s.len]; exact objs_lt B.s B.ho k hk
theorem Back.own {b : Addr} : Own ρ (putBack os ks (osf.take bs.length)) b → Own ρ os b := by
  rintro ⟨j, p, o, h1, h2, h3, h4⟩
  by_cases hj : j ∈ ks
  · exact B.inOwn ⟨j, p, hj, h1, h4⟩
  · rw [putBack_out hj] at h2
    exact ⟨j, p, o, h1, h2, h3, h4⟩
theorem Back.inNow {b : Addr} (h : InOf ρ ks b) : Own ρ' osf b := by
  obtain ⟨k, p, hk, e2, h4⟩ := h
  obtain ⟨i, hi, e⟩ := List.getElem_of_mem hk
  obtain ⟨o, a, _, c, d⟩ := B.at (by rw [List.getElem?_eq_getElem hi, e]) e2
  exact ⟨i, p, o, d, a, c, h4⟩
/-- what was live and is not lent is live or a list that was lent to be read -/
theorem Back.conv {b : Addr} (h : Live ρ os b) : Live ρ' osf b ∨ (sn ≠ [] ∧ ((∃ xs, H' b = some (.lst xs)) ∨ ∃ kv, H' b = some (.dK kv))) := by
  by_cases h1 : InOf ρ ks b
  · exact .inl (.inl (B.inNow h1))
  · by_cases h2 : InOf ρ sn b
    · obtain ⟨k, p, hk, e, z⟩ := id h2
      refine .inr ⟨(fun q => absurd (q ▸ hk : k ∈ ([] : List Nat)) (by simp)), ?_⟩
      obtain ⟨_, x, hx⟩ := B.snp k hk
      rcases rd_kind hx with ⟨xs, q, _⟩ | ⟨kk, xs, q, _⟩
      · obtain ⟨q1, ws, q2, _⟩ := B.s.obj k p _ e q
        rcases z with z | z
        · subst z
          exact .inl ⟨ws, B.keep q2 h1⟩
        · rw [q1] at z; cases z
      · obtain ⟨q1, ws, q2, _⟩ := B.s.obj k p _ e q
        rcases z with z | z
        · subst z
          exact .inr ⟨ws, B.keep q2 h1⟩
        · rw [q1] at z; cases z
    · exact .inl (.inr (B.e.mono b ⟨h, h1, h2⟩))
variable {L2 : Addr → Prop} (c2 : ∀ b, L2 b → Live ρ' osf b ∨ (sn ≠ [] ∧ ((∃ xs, H' b = some (.lst xs)) ∨ ∃ kv, H' b = some (.dK kv))))
include c2
omit B in
theorem rep_back {x : IV} {v : V} (h : sn = [] ∨ noL x = true) (r : Rep mg (Live ρ' osf) H' x v) : Rep mg L2 H' x v := by
  rcases h with h | h
  · refine r.sub fun b l => ?_
    rcases c2 b l with q | ⟨q, _⟩
    · exact q
    · exact absurd h q
  · refine Rep.noL (fun b l => ?_) h r
    rcases c2 b l with q | ⟨_, q⟩
    · exact .inl q
    · exact .inr q
omit B in
theorem reps_back {x : List IV} {v : List V} (h : sn = [] ∨ noLs x = true) (r : Reps mg (Live ρ' osf) H' x v) : Reps mg L2 H' x v := by
  rcases h with h | h
  · refine r.sub fun b l => ?_
    rcases c2 b l with q | ⟨q, _⟩
    · exact q
    · exact absurd h q
  · refine Reps.noL (fun b l => ?_) h r
    rcases c2 b l with q | ⟨_, q⟩
    · exact .inl q
    · exact .inr q
omit B in
theorem ob_back {p : Addr × List Addr} {o : OB} (h : sn = [] ∨ obNo o = true) (r : ObR mg (Live ρ' osf) H' p o) : ObR mg L2 H' p o := by
  cases o with
  | lst xs =>
    obtain ⟨a, vs, q, t⟩ := r
    exact ⟨a, vs, q, reps_back c2 h t⟩
  | dK kk xs =>
    obtain ⟨a, vs, q, k, t⟩ := r
    exact ⟨a, vs, q, k, reps_back c2 h t⟩
  | drw a b c => exact r
  | dead => trivial
theorem Back.obj (c1 : ∀ b, L2 b → Live ρ os b ∨ H b = none) {j : Nat} {p : Addr × List Addr} {o : OB} (hp : ρ.l[j]? = some p) (h : (putBack os ks (osf.take bs.length))[j]? = some o) : ObR mg L2 H' p o := by
  by_cases hj : j ∈ ks
  · obtain ⟨i, hi, e⟩ := List.getElem_of_mem hj
    have hi : ks[i]? = some j := by rw [List.getElem?_eq_getElem hi, e]
    obtain ⟨o', a, b, c, d⟩ := B.at hi hp
    rw [putBack_in B.nd hi b (B.lt hj)] at h
    cases h
    refine ob_back c2 ?_ (B.s'.obj i p o d a)
    rcases B.no with q | q
    · exact .inl q
    · exact .inr (List.all_eq_true.mp q o (List.mem_of_getElem? b))
  · rw [putBack_out hj] at h
    have nin : ∀ b ∈ p.1 :: p.2, ¬ InOf ρ ks b := fun b hb ⟨k, p', hk, e2, z⟩ => B.s.dis j k p p' (fun e => hj (e ▸ hk)) hp e2 b hb (by simpa using z)
    refine (B.s.obj j p o hp h).kp ⟨fun b u q n => B.keep q fun z => n (.inl (B.inOwn z)), c1⟩ fun b hb => ?_
    cases q : H b with
    | none => exact absurd q (B.s.there j p hp b hb)
    | some u => exact B.keep q (nin b hb)
omit c2
theorem Back.there {j : Nat} {p : Addr × List Addr} (hp : ρ.l[j]? = some p) {b : Addr} (hb : b ∈ p.1 :: p.2) : H' b ≠ none := by
  by_cases h : InOf ρ ks b
  · exact B.s'.there' (.inl (B.inNow h))
  · cases q : H b with
    | none => exact absurd q (B.s.there j p hp b hb)
    | some u => rw [B.keep q h]; simp
theorem Back.fth {b : Addr} (hb : ρ.F b) : H' b ≠ none := by
  have h : ¬ InOf ρ ks b := fun ⟨k, p, _, e, z⟩ => B.s.out k p e b (by simpa using z) hb
  cases q : H b with
  | none => exact absurd q (B.s.fth b hb)
  | some u => rw [B.keep q h]; simp
/-- the caller's store behind the call -/
theorem Back.ok : StOk mg ρ H' (putBack os ks (osf.take bs.length)) ∧ Ext ρ os H ρ (putBack os ks (osf.take bs.length)) H' := by
  have lv : ∀ b, Live ρ (putBack os ks (osf.take bs.length)) b → Live ρ os b := fun b l => l.imp B.own id
  refine ⟨⟨by rw [putBack_length]; exact B.s.len, B.s.nd, B.s.dis, fun k p hp b hb => B.there hp hb, fun j p o hp h => B.obj (fun b l => B.conv (lv b l)) (fun b l => .inl (lv b l)) hp h, B.s.out, fun b hb => B.fth hb⟩,
    ⟨⟨[], by simp⟩, fun _ h => h, fun b h => .inl (.inr h), fun b o h n => B.keep h fun z => n (B.inOwn z), fun b h => .inl (B.own h)⟩⟩
/-- an object that the callee made -/
structure New (bs : OS) (ρ' : Rho) (osf : OS) (k : Nat) (p : Addr × List Addr) (o : OB) : Prop where
  ge : bs.length ≤ k
  at_ : ρ'.l[k]? = some p
  ob : osf[k]? = some o
  nd : o ≠ .dead
variable {k : Nat} {p : Addr × List Addr} {o : OB} (N : New bs ρ' osf k p o)
include N
theorem Back.fresh {b : Addr} (hb : b ∈ p.1 :: p.2) : H b = none := by
  rcases B.e.own b ⟨k, p, o, N.at_, N.ob, N.nd, by simpa using hb⟩ with q | q
  · obtain ⟨i, p', o', h1, h2, _, h4⟩ := q
    have h5 := B.e.at h1
    have h6 : i < bs.length := (List.getElem?_eq_some_iff.mp h2).1
    exact absurd (by simpa using h4) (B.s'.dis k i p p' (by have := N.ge; omega) N.at_ h5 b hb)
  · exact q
theorem Back.notLive {b : Addr} (hb : b ∈ p.1 :: p.2) : ¬ Live ρ os b := fun l => B.s.there' l (B.fresh N hb)
/-- taken over -/
theorem Back.join (hn : sn = [] ∨ obNo o = true) : StOk mg (ρ.push p) H' (putBack os ks (osf.take bs.length) ++ [o]) ∧ Ext ρ os H (ρ.push p) (putBack os ks (osf.take bs.length) ++ [o]) H' := by
  have hlen : ρ.l.length = (putBack os ks (osf.take bs.length)).length := by rw [putBack_length]; exact B.s.len
  have own2 : ∀ b, Own (ρ.push p) (putBack os ks (osf.take bs.length) ++ [o]) b → Own ρ os b ∨ b ∈ p.1 :: p.2 := fun b l => by
    rcases own_push hlen l with q | q | q
    · exact .inl (B.own q)
    · exact .inr (by simp [q])
    · exact .inr (List.mem_cons_of_mem _ q)
  have c1 : ∀ b, Live (ρ.push p) (putBack os ks (osf.take bs.length) ++ [o]) b → Live ρ os b ∨ H b = none := fun b l => by
    rcases l with l | l
    · rcases own2 b l with q | q
      · exact .inl (.inl q)
      · exact .inr (B.fresh N q)
    · exact .inl (.inr l)
  have c2 : ∀ b, Live (ρ.push p) (putBack os ks (osf.take bs.length) ++ [o]) b → Live ρ' osf b ∨ (sn ≠ [] ∧ ((∃ xs, H' b = some (.lst xs)) ∨ ∃ kv, H' b = some (.dK kv))) := fun b l => by
    rcases l with l | l
    · rcases own2 b l with q | q
      · exact B.conv (.inl q)
      · exact .inl (.inl ⟨k, p, o, N.at_, N.ob, N.nd, by simpa using q⟩)
    · exact B.conv (.inr l)
  refine ⟨⟨by simp [Rho.push, hlen], fun j q hq => ?_, fun i j q r n hq hr b hb => ?_, fun j q hq b hb => ?_, fun j q w hq hw => ?_, fun j q hq b hb => ?_, fun b hb => B.fth hb⟩,
    ⟨⟨[p], rfl⟩, fun _ h => h, fun b h => .inl (.inr h), fun b o h n => B.keep h fun z => n (B.inOwn z), fun b h => (own2 b h).imp id fun z => B.fresh N z⟩⟩
  · rcases get_push hq with ⟨_, z⟩ | ⟨_, z⟩
    · exact B.s.nd j q z
    · rw [z]; exact B.s'.nd k p N.at_
  · rcases get_push hq with ⟨_, z⟩ | ⟨zj, z⟩ <;> rcases get_push hr with ⟨_, y⟩ | ⟨yk, y⟩
    · exact B.s.dis i j q r n z y b hb
    · rw [y]
      exact fun c => B.s.there i q z b hb (B.fresh N c)
    · rw [z] at hb
      exact fun c => B.s.there j r y b c (B.fresh N hb)
    · omega
  · rcases get_push hq with ⟨_, y⟩ | ⟨_, y⟩
    · exact B.there y hb
    · rw [y] at hb
      exact B.s'.there k p N.at_ b hb
  · rcases get_push hq with ⟨hk, y⟩ | ⟨hk, y⟩
    · rw [List.getElem?_append_left (by rw [← hlen]; exact hk)] at hw
      exact B.obj c2 c1 y hw
    · rcases get_push hw with ⟨hk', y'⟩ | ⟨hk', y'⟩
      · omega
      · rw [y, y']
        exact ob_back c2 hn (B.s'.obj k p o N.at_ N.ob)
  · rcases get_push hq with ⟨_, y⟩ | ⟨_, y⟩
    · exact B.s.out j q y b hb
    · rw [y] at hb
      exact fun l => B.s.fth b l (B.fresh N hb)
end

/-! ### the promise of a function -/
def RepO (mg : G) (nb : Nat) (ρ : Rho) (os : OS) (H : Hp) : Out → V → Prop
  | .iv x, v => Rep mg (Live ρ os) H x v
  | .ob o, v => ∃ k p, nb ≤ k ∧ ρ.l[k]? = some p ∧ os[k]? = some o ∧ o ≠ .dead ∧ v = .ref p.1
def RunG (mg : G) (ρ : Rho) (bs : OS) (H : Hp) (r : Res Out) (Q : VK) (E : XK) : Prop := match r with
  | .ok v os' => ∀ ρ' osf H' v', Ext ρ bs H ρ' osf H' → StOk mg ρ' H' osf → osf.take bs.length = os' → RepO mg bs.length ρ' osf H' v v' → Q v' H'
  | .exc c ns vs os' => ∀ ρ' osf H' C dd (fs : List (Str × V)), Ext ρ bs H ρ' osf H' → StOk mg ρ' H' osf → osf.take bs.length = os' → mg.m c = some (.ref C) → H' dd = some (.xd fs) → ¬ Live ρ' osf dd → fs.map (·.1) = ns → Reps mg (Live ρ' osf) H' vs (fs.map (·.2)) → E (.ref C) (some dd) H'
  | .bad => False
def spF (mg : G) (F : Fn) : Sp := fun vs H Q E => vs.length = F.ps.length ∧ ∃ ρ as bs, StOk mg ρ H bs ∧ RepPs mg ρ bs H as vs ∧ RunG mg ρ bs H (F.run as bs) Q E
theorem snap_no {b : Bool} {bor : List Bool} {vs : List PV} (h : (!snapd bor vs || b) = true) : snpKs bor vs = [] ∨ b = true := by
  cases e : snapd bor vs with
  | false => exact .inl (snpKs_nil e)
  | true => rw [e] at h; exact .inr (by simpa using h)
theorem call_sp {mg : G} {W : WX} {m : Bool} {F : Fn} {σ : L2.St} {ρ : Rho} {os : OS} {H : Hp} {vs : List PV} {us : List V} {Q : VK} (s : StOk mg ρ H os) (r : RepPs mg ρ os H vs us) (hl : vs.length = F.ps.length)
    (g : Gives mg W σ ρ os H (callF m F vs os) (fun v ρ' os' H' => ∀ v', RepP mg ρ' os' H' v v' → Q v' H')) : spF mg F us H Q (WE W σ) := by
  refine ⟨by rw [← r.length]; exact hl, ?_⟩
  unfold callF at g
  split at g
  · exact False.elim g
  · rename_i ks hk
    split at g
    · rename_i as bs ha ho
      have nd := borKs_nodup hk
      obtain ⟨ra, hsn⟩ := args_lend (sn0 := snpKs F.bor vs) s ho hk (j := 0) (fun i k e => by simpa using e) (fun k q => q) ha r
      refine ⟨lent ρ os ks (snpKs F.bor vs), as, bs, s.lend nd ho, ra, ?_⟩
      unfold RunG
      split at g
      · rename_i v os' hr
        try rw [hr]
        split at g
        · rename_i hc
          intro ρ' osf H' v' e s' ht rv
          obtain ⟨h1, h2⟩ := Bool.and_eq_true_iff.mp hc
          have h3 := snap_no h2
          have no1 : snpKs F.bor vs = [] ∨ outNo v = true := h3.imp id fun z => (Bool.and_eq_true_iff.mp z).1
          have no2 : snpKs F.bor vs = [] ∨ os'.all obNo = true := h3.imp id fun z => (Bool.and_eq_true_iff.mp z).2
          have B : Back mg ρ os H ks (snpKs F.bor vs) bs ρ' osf H' := ⟨s, nd, ho, e, s', by rw [ht]; exact h1, hsn, by rw [ht]; exact no2⟩
          have bo := B.ok
          rw [ht] at bo
          have c2 : ∀ b, Live ρ (putBack os ks os') b → Live ρ' osf b ∨ (snpKs F.bor vs ≠ [] ∧ ((∃ xs, H' b = some (.lst xs)) ∨ ∃ kv, H' b = some (.dK kv))) := fun b l => B.conv (l.imp (fun q => B.own (by rw [ht]; exact q)) id)
          unfold adopt at g
          split at g
          · rename_i x
            exact g ρ H' bo.2 bo.1 v' (rep_back c2 no1 rv)
          · rename_i xs
            obtain ⟨k, p, n1, n2, n3, n4, rfl⟩ := rv
            have N : New bs ρ' osf k p (.lst xs) := ⟨n1, n2, n3, n4⟩
            obtain ⟨_, ws, q1, q2⟩ := s'.obj k p _ n2 n3
            refine g ρ H' bo.2 bo.1 _ (Rep.lst q1 (fun l => ?_) (reps_back c2 no1 q2))
            exact B.notLive N List.mem_cons_self (l.imp (fun q => B.own (by rw [ht]; exact q)) id)
          · rename_i kk xs
            obtain ⟨k, p, n1, n2, n3, n4, rfl⟩ := rv
            have N : New bs ρ' osf k p (.dK kk xs) := ⟨n1, n2, n3, n4⟩
            obtain ⟨_, ws, q1, q3, q2⟩ := s'.obj k p _ n2 n3
            refine g ρ H' bo.2 bo.1 _ (Rep.dic q1 (fun l => ?_) q3 (reps_back c2 no1 q2))
            exact B.notLive N List.mem_cons_self (l.imp (fun q => B.own (by rw [ht]; exact q)) id)
          · rename_i o
            split at g
            · obtain ⟨k, p, n1, n2, n3, n4, rfl⟩ := rv
              have N : New bs ρ' osf k p o := ⟨n1, n2, n3, n4⟩
              have bj := B.join N no1
              rw [ht] at bj
              refine g _ H' bj.2 bj.1 _ ⟨p, ?_, rfl⟩
              rw [putBack_length, ← s.len]
              simp [Rho.push]
            · exact False.elim g
          · exact False.elim g
        · exact False.elim g
      · rename_i c ns ws os' hr
        try rw [hr]
        split at g
        · rename_i hc
          intro ρ' osf H' C dd fs e s' ht hm hx hd hn rv
          obtain ⟨h1, h2⟩ := Bool.and_eq_true_iff.mp hc
          have h3 := snap_no h2
          have no1 : snpKs F.bor vs = [] ∨ noLs ws = true := h3.imp id fun z => (Bool.and_eq_true_iff.mp z).1
          have no2 : snpKs F.bor vs = [] ∨ os'.all obNo = true := h3.imp id fun z => (Bool.and_eq_true_iff.mp z).2
          have B : Back mg ρ os H ks (snpKs F.bor vs) bs ρ' osf H' := ⟨s, nd, ho, e, s', by rw [ht]; exact h1, hsn, by rw [ht]; exact no2⟩
          have bo := B.ok
          rw [ht] at bo
          have c2 : ∀ b, Live ρ (putBack os ks os') b → Live ρ' osf b ∨ (snpKs F.bor vs ≠ [] ∧ ((∃ xs, H' b = some (.lst xs)) ∨ ∃ kv, H' b = some (.dK kv))) := fun b l => B.conv (l.imp (fun q => B.own (by rw [ht]; exact q)) id)
          refine g ρ H' C dd fs bo.2 bo.1 hm hx (fun l => ?_) hn (reps_back c2 no1 rv)
          rcases c2 dd l with q | ⟨_, ⟨_, q⟩ | ⟨_, q⟩⟩
          · exact hd q
          · rw [hx] at q; cases q
          · rw [hx] at q; cases q
        · exact False.elim g
      · exact False.elim g
    · exact False.elim g
end DP

set_option Elab.async false
set_option linter.all false
set_option maxRecDepth 100000
set_option maxHeartbeats 1000000
/-! Ev17: calls as expressions; defs. -/
namespace DP
open PySem PySem.Spec L2

theorem borKs_len : ∀ {bor : List Bool} {vs : List PV} {ks : List Nat}, borKs bor vs = some ks → vs.length = bor.length
  | [], [], ks, h => rfl
  | [], _ :: _, ks, h => by simp [borKs] at h
  | true :: bs, [], ks, h => by simp [borKs] at h
  | false :: bs, [], ks, h => by simp [borKs] at h
  | true :: bs, .iv _ :: vs, ks, h => by simp [borKs] at h
  | true :: bs, .ref k :: vs, ks, h => by
    simp only [borKs] at h
    obtain ⟨ks', hk, h⟩ := Option.bind_eq_some_iff.mp h
    simp [borKs_len hk]
  | false :: bs, v :: vs, ks, h => by
    simp only [borKs] at h
    simp [borKs_len h]
theorem callF_len {mg : G} {W : WX} {σ : L2.St} {ρ : Rho} {os : OS} {H : Hp} {m : Bool} {F : Fn} {vs : List PV} {K : PV → Rho → OS → Hp → Prop} (h : F.bor.length = F.ps.length) (g : Gives mg W σ ρ os H (callF m F vs os) K) : vs.length = F.ps.length := by
  unfold callF at g
  split at g
  · exact False.elim g
  · rename_i ks hk
    rw [borKs_len hk, h]

section
variable {X : Cx} {W : WX} {k : Nat} {f : Addr} {fd : FuncData} {ps : List Str} {sp : Sp} {x : Str} {p pos : Pos} {e : Expr} {es : List Expr} {t : TA} {dp : Env → OS → Res (List PV)}
/-- a function of the program is called -/
theorem pe_callG (F : FnG X.prog X.w X.K X.mg X.base (L2.CX X.prog X.w) k f fd ps sp) (gd : X.A.guards = some []) (rm : Room k X.A) (hg : Gl X x) (hm : X.mg x = some (.ref f)) (hk : PySem.W.keepIn X.K (.ref f) = true) (hb : Binds X.K fd ps []) (tk : Takes X W)
    (ha : PA X (e :: es) t) (hdb : (x == ("__debug__" : Str)) = false) (hst : (e :: es).all notStar = true) :
    PE X (.Call (.Name x p) (e :: es) [] pos) (fun σ H Q => t σ H fun vs H1 => sp vs H1 Q (WE W σ)) where
  run := by
    intro pins s σ H Q I h
    obtain ⟨h1, h2⟩ := Bool.and_eq_true_iff.mp (show (notStar e && es.all notStar) = true from hst)
    refine wpAny_Call_Name_kw (ld_glob I hg hm (PySem.W.callWith_K (h₀ := X.base) I.ok.mod.kin hk (thn (ha.run pos pins s σ H _ I h) ?_) (star_plain h1 _) (star_all h2)) hdb)
    rintro us s1 ⟨vs, H1, I1, r, q⟩
    have n1 : us.length = ps.length := by rw [← r.length]; exact F.cnt _ _ _ _ q
    have bd := hb s1 us I1.kIn (by simpa using n1)
    rw [List.append_nil] at bd
    refine ⟨I1.kIn, wpAny_call (codeAny_mono (F.go X.A X.stack s1 H1 ⟨us, []⟩ us vs Q (WE W σ) gd rm I1.env0 bd r q) ?_)⟩
    rintro (ex | fl) s2 z
    · exact passAt tk σ pins H1 s1 ex s2 I1 z
    · cases fl <;> first | exact I1.after z | exact False.elim z
theorem sd_call {m : Bool} {F : Fn} (hF : F.bor.length = F.ps.length) (G : FnG X.prog X.w X.K X.mg X.base (L2.CX X.prog X.w) k f fd F.ps (spF X.g F)) (gd : X.A.guards = some []) (rm : Room k X.A) (hg : Gl X x) (hm : X.mg x = some (.ref f)) (hk : PySem.W.keepIn X.K (.ref f) = true)
    (hb : Binds X.K fd F.ps []) (tk : Takes X W) (ha : PA X (e :: es) (rdP X.g W dp)) (hdb : (x == ("__debug__" : Str)) = false) (hst : (e :: es).all notStar = true) :
    PE X (.Call (.Name x p) (e :: es) [] pos) (rdE X.g W fun env os => (dp env os).bind fun vs os1 => callF m F vs os1) := by
  refine PE.imp (pe_callG G gd rm hg hm hk hb tk ha hdb hst) ?_
  rintro σ H Q ⟨ρ, env, os, hs, he, g⟩
  exact ⟨ρ, env, os, hs, he, g.bind.imp fun vs ρ1 os1 H1 e1 s1 k us r => call_sp s1 r (callF_len hF k) k⟩
end

/-! ### a def -/
def finish (nb : Nat) (r : SR) : Res Out := match r with
  | .nx _ os' => .ok (.iv .non) (os'.take nb)
  | .rt (.iv x) os' => .ok (.iv x) (os'.take nb)
  | .rt (.ref k) os' => if k < nb then .bad else (match os'[k]? with
    | some o => if notDead o then .ok (.ob o) (os'.take nb) else .bad
    | none => .bad)
  | .exc c ns vs _ os' => .exc c ns vs (os'.take nb)
  | _ => .bad
theorem runDef_eq {fs : FS} {n : Nat} {body : List S} {args : List PV} {os : OS} : runDef fs n body args os = finish os.length (denSs fs body (args.map some ++ List.replicate (n - args.length) none) os) := by
  unfold runDef finish
  cases denSs fs body (args.map some ++ List.replicate (n - args.length) none) os <;> rfl
theorem finish_ok {mg : G} {ρ : Rho} {bs : OS} {H : Hp} {r : SR} {Q : VK} {E : XK} (g : RunG mg ρ bs H (finish bs.length r) Q E) : GivesS mg (fun cls d _ H2 => E cls d H2) { nx := fun _ H2 => Q .non H2, rt := Q } ρ bs H r := by
  cases r with
  | nx env os' => exact fun ρ' H' σ' e s _ => g ρ' os' H' .non e s rfl .non
  | bk env os' => exact False.elim g
  | ct env os' => exact False.elim g
  | bad => exact False.elim g
  | exc c ns vs env os' => exact fun ρ' H' σ' C dd fs e s _ => g ρ' os' H' C dd fs e s rfl
  | rt v os' =>
    cases v with
    | iv x => exact fun ρ' H' v' e s rv => g ρ' os' H' v' e s rfl rv
    | ref k =>
      unfold finish at g
      simp only at g
      split at g
      · exact False.elim g
      · rename_i hk
        split at g
        · rename_i o ho
          split at g
          · rename_i hd
            intro ρ' H' v' e s rv
            obtain ⟨p, h1, h2⟩ := rv
            exact g ρ' os' H' v' e s rfl ⟨k, p, Nat.le_of_not_lt hk, h1, ho, fun z => by rw [z] at hd; simp [notDead] at hd, h2⟩
          · exact False.elim g
        · exact False.elim g
theorem start_env {mg : G} {ρ : Rho} {bs : OS} {H : Hp} {as : List PV} {vs : List V} (r : RepPs mg ρ bs H as vs) (N : List Str) : EnvOk mg ρ bs H (as.map some ++ List.replicate (N.length - as.length) none) (start N vs) := by
  have get : ∀ {as : List PV} {vs : List V}, RepPs mg ρ bs H as vs → ∀ (i : Nat) (x : PV), as[i]? = some x → ∃ v, vs[i]? = some v ∧ RepP mg ρ bs H x v := by
    intro as vs r
    induction r with
    | nil => intro i x h; simp at h
    | cons r t ih =>
      intro i x h
      cases i with
      | zero => simp at h; subst h; exact ⟨_, rfl, r⟩
      | succ i =>
        obtain ⟨v, a, b⟩ := ih i x (by simpa using h)
        exact ⟨v, by simpa using a, b⟩
  refine ⟨by simp [L2.start, r.length], fun i x h => ?_⟩
  unfold L2.start
  by_cases hi : i < as.length
  · rw [List.getElem?_append_left (by simpa using hi), List.getElem?_map] at h
    obtain ⟨y, h1, h2⟩ := Option.map_eq_some_iff.mp h
    cases h2
    obtain ⟨v, h3, h4⟩ := get r i _ h1
    refine ⟨v, ?_, h4⟩
    rw [List.getElem?_append_left (by rw [List.length_map, ← r.length]; exact hi), List.getElem?_map, h3]
    rfl
  · rw [List.getElem?_append_right (by simpa using hi), List.getElem?_replicate] at h
    split at h <;> cases h
theorem fnG_def {P : Program} {w : World} {K : PySem.W.Frag} {mg : Str → Option Value} {base : Heap} {k : Nat} {f : Addr} {name qual : Str} {params : Arguments} {body : List Stmt} {sc : Scope} {v1 v2 v3 v4 cdv v5 cls : Value} {an od : Option Addr} {sl : Array (Option Value)} {N ps : List Str}
    {d : Env → OS → SR} {F : Fn} (hps : F.ps = ps) (hrun : ∀ as bs, F.run as bs = finish bs.length (d (as.map some ++ List.replicate (N.length - as.length) none) bs))
    (lk : K.lookup f = some ⟨cls, od, .func (PySem.W.fnOf name qual params body sc v1 v2 v3 v4 an cdv v5), sl⟩) (hcd : PySem.W.codeIn K cdv qual = true) (S : FnScope N ps sc)
    (hb : ∀ A fr s H E, (A.deeper (PyProof.Rows.envOfC qual sc s.heap.objs.size f cdv)).guards = some [] → Room k (A.deeper (PyProof.Rows.envOfC qual sc s.heap.objs.size f cdv)) →
      PSs (cxOf (L2.CX P w) P w K mg base N qual sc f cdv A fr s H E) body (rdS ⟨mg, K⟩ (fun c d _ H2 => E c d H2) d)) :
    FnG P w K mg base (L2.CX P w) (k + 1) f (PySem.W.fnOf name qual params body sc v1 v2 v3 v4 an cdv v5) ps (spF ⟨mg, K⟩ F) := by
  refine FnG.body lk hcd S (fun a b c d q => by rw [← hps]; exact q.1) fun A fr s H vs Q E gd rm q => ?_
  obtain ⟨hl, ρ, as, bs, st, ra, g⟩ := q
  refine ⟨_, hb A fr s H E gd rm, ρ, _, bs, st, start_env ra N, finish_ok ?_⟩
  rw [← hrun]
  exact g
end DP

set_option Elab.async false
set_option linter.all false
set_option maxRecDepth 100000
set_option maxHeartbeats 1000000
/-! Ev18: which stores are swapped. -/
namespace DP
open PySem PySem.Spec L2

section
variable {env : PySem.Env} {x y z : Str} {px py pz pt p2 : Pos} {kt k2 : Nat} {a b c : Expr}
theorem blk_fn (h : env.scope.kind = .function) : env.blockKind = .function := by unfold PySem.Env.blockKind; rw [h]; rfl
theorem star_any2 (h1 : notStar a = true) (h2 : notStar b = true) : ([a, b].any fun | .Starred .. => true | _ => false) = false := by
  cases a <;> first | (simp [notStar] at h1; done) | (cases b <;> first | rfl | (simp [notStar] at h2; done))
theorem star_any3 (h1 : notStar a = true) (h2 : notStar b = true) (h3 : notStar c = true) : ([a, b, c].any fun | .Starred .. => true | _ => false) = false := by
  have := star_any2 h1 h2
  simp only [List.any_cons, List.any_nil, Bool.or_false, Bool.or_eq_false_iff] at this ⊢
  refine ⟨this.1, this.2, ?_⟩
  cases c <;> first | rfl | (simp [notStar] at h3; done)
theorem sw2 (hk : env.scope.kind = .function) (kx : env.kindOf x = some .local) (ky : env.kindOf y = some .local) (hl : (py.line == px.line) = true) (hxy : (x == y) = false) (h1 : notStar a = true) (h2 : notStar b = true)
    (hf : [a, b].all (foldedForSure 8) = false) (hc : [a, b].all (constantsAlone 8) = false) :
    swappedStores [.Tuple [.Name x px, .Name y py] kt pt] (.Tuple [a, b] k2 p2) env = pure (some [x, y]) := by
  have hb := blk_fn hk
  have hs := star_any2 h1 h2
  have hyx : (y == x) = false := by
    cases e : y == x with
    | false => rfl
    | true => rw [beq_iff_eq.mp e] at hxy; simp at hxy
  unfold swappedStores
  simp only [List.length_cons, List.length_nil, hb, hs, hf, hc, List.head?, Option.map, Option.getD, Expr.pos, List.filterMap, kx, ky, hl, beq_self_eq_true, Bool.and_self, if_true, Bool.true_and, List.eraseDups, List.eraseDupsBy, List.eraseDupsBy.loop, List.any, hxy, hyx, Bool.or_false]
  simp only [List.any, Bool.or_false] at hs
  simp [hs]
  intro h
  exfalso
  rcases h with h | h
  · cases a <;> simp_all [notStar]
  · cases b <;> simp_all [notStar]
theorem sw3 (hk : env.scope.kind = .function) (kx : env.kindOf x = some .local) (ky : env.kindOf y = some .local) (kz : env.kindOf z = some .local) (hl : (py.line == px.line) = true) (hl2 : (pz.line == px.line) = true) (hxy : (x == y) = false) (hxz : (x == z) = false) (hyz : (y == z) = false)
    (h1 : notStar a = true) (h2 : notStar b = true) (h3 : notStar c = true) (hf : [a, b, c].all (foldedForSure 8) = false) (hc : [a, b, c].all (constantsAlone 8) = false) :
    swappedStores [.Tuple [.Name x px, .Name y py, .Name z pz] kt pt] (.Tuple [a, b, c] k2 p2) env = pure (some [x, y, z]) := by
  have hb := blk_fn hk
  have hs := star_any3 h1 h2 h3
  have fl : ∀ {u v : Str}, (u == v) = false → (v == u) = false := fun {u v} h => by
    cases e : v == u with
    | false => rfl
    | true => rw [beq_iff_eq.mp e] at h; simp at h
  have q1 := fl hxy
  have q2 := fl hxz
  have q3 := fl hyz
  unfold swappedStores
  simp only [List.length_cons, List.length_nil, hb, hs, hf, hc, List.head?, Option.map, Option.getD, Expr.pos, List.filterMap, kx, ky, kz, hl, hl2, beq_self_eq_true, Bool.and_self, if_true, Bool.true_and, List.eraseDups, List.eraseDupsBy, List.eraseDupsBy.loop, List.any, hxy, hxz, hyz, q1, q2, q3, Bool.or_false]
  simp only [List.any, Bool.or_false] at hs
  simp [hs]
  intro h
  exfalso
  rcases h with h | h | h
  · cases a <;> simp_all [notStar]
  · cases b <;> simp_all [notStar]
  · cases c <;> simp_all [notStar]
/-- not all of the names are plain locals -/
theorem sw2n (hk : env.scope.kind = .function) (kx : (env.kindOf x == some .local && env.kindOf y == some .local) = false) (hl : (py.line == px.line) = true) (h1 : notStar a = true) (h2 : notStar b = true) :
    swappedStores [.Tuple [.Name x px, .Name y py] kt pt] (.Tuple [a, b] k2 p2) env = pure none := by
  have hb := blk_fn hk
  have hs := star_any2 h1 h2
  unfold swappedStores
  simp only [List.length_cons, List.length_nil, hb, hs, List.head?, Option.map, Option.getD, Expr.pos, List.filterMap, hl, beq_self_eq_true, Bool.and_true]
  cases e1 : env.kindOf x == some .local <;> cases e2 : env.kindOf y == some .local <;> first | (exfalso; rw [e1, e2] at kx; exact Bool.noConfusion kx) | (simp only [List.any, Bool.or_false] at hs; simp [hs])
theorem sw3n (hk : env.scope.kind = .function) (kx : (env.kindOf x == some .local && env.kindOf y == some .local && env.kindOf z == some .local) = false) (hl : (py.line == px.line) = true) (hl2 : (pz.line == px.line) = true) (h1 : notStar a = true) (h2 : notStar b = true) (h3 : notStar c = true) :
    swappedStores [.Tuple [.Name x px, .Name y py, .Name z pz] kt pt] (.Tuple [a, b, c] k2 p2) env = pure none := by
  have hb := blk_fn hk
  have hs := star_any3 h1 h2 h3
  unfold swappedStores
  simp only [List.length_cons, List.length_nil, hb, hs, List.head?, Option.map, Option.getD, Expr.pos, List.filterMap, hl, hl2, beq_self_eq_true, Bool.and_true]
  cases e1 : env.kindOf x == some .local <;> cases e2 : env.kindOf y == some .local <;> cases e0 : env.kindOf z == some .local <;> first | (exfalso; rw [e1, e2, e0] at kx; exact Bool.noConfusion kx) | (simp only [List.any, Bool.or_false] at hs; simp [hs])
def notTup : Expr → Bool
  | .Tuple _ _ _ => false
  | _ => true
theorem sw_notTup {ts : List Expr} {e : Expr} (h : notTup e = true) : swappedStores [.Tuple ts kt pt] e env = pure none := by
  cases e <;> first | rfl | (simp [notTup] at h)
theorem sw_sub {o i e : Expr} : swappedStores [.Subscript o i pt] e env = pure none := rfl
theorem sw_lcno {elt : Expr} {gs : List Comprehension} {scope : Scope} {pos : Pos} {l : Nat} (h : (env.kindOf y == some .local && py.line == pos.line && !(scope.names.any fun (n, k) => n == y && (k == .local || k == .cell))) = false) :
    swapsWith (.ListComp elt gs scope pos) (some (.Name y py)) l env = pure false := by
  unfold swapsWith
  simp only [Expr.pos]
  have : (env.blockKind == .function && env.kindOf y == some .local && py.line == pos.line && !(scope.names.any fun (n, k) => n == y && (k == .local || k == .cell))) = false := by
    rw [Bool.and_assoc, Bool.and_assoc]
    rw [Bool.and_assoc] at h
    rw [h, Bool.and_false]
  show pure _ = pure false
  rw [this]
end
end DP

set_option Elab.async false
set_option linter.all false
set_option maxRecDepth 100000
set_option maxHeartbeats 4000000
/-! Ev19: the checker of expressions, and that it is right. -/
namespace DP
open PySem PySem.Spec L2

structure CC where
  N : List Str
  sc : Scope
  fn : Str → Bool
  gs : List (Str × IV)
  bn : List Str
  fns : List (Nat × Str)
def eqAtom : IV → IV → Bool
  | .non, .non => true
  | .bl a, .bl b => a == b
  | .int i, .int j => decide (i = j)
  | .str x, .str y => decide (x = y)
  | .ty x, .ty y => x == y
  | .glo x, .glo y => decide (x = y)
  | _, _ => false
theorem eqAtom_eq {x y : IV} (h : eqAtom x y = true) : x = y := by
  unfold eqAtom at h
  split at h <;> simp_all
def visB (sc : Scope) (x : Str) : Bool := match sc.names.lookup x with
  | some .local => true
  | some .cell => true
  | some .free => true
  | _ => false
def locB (sc : Scope) (x : Str) : Bool := match sc.names.lookup x with
  | some .local => true
  | some .cell => true
  | _ => false
def glB (sc : Scope) (x : Str) : Bool := match sc.names.lookup x with
  | some .globalImplicit => true
  | _ => false
def lcB (sc : Scope) (x : Str) : Bool := match sc.names.lookup x with
  | some .local => true
  | _ => false
theorem visB_ok {sc : Scope} {x : Str} (h : visB sc x = true) : Vis sc x := by
  unfold visB at h
  split at h
  · exact .inl (by assumption)
  · exact .inr (.inl (by assumption))
  · exact .inr (.inr (by assumption))
  · cases h
theorem locB_ok {sc : Scope} {x : Str} (h : locB sc x = true) : Loc sc x := by
  unfold locB at h
  split at h
  · exact .inl (by assumption)
  · exact .inr (by assumption)
  · cases h
theorem glB_ok {sc : Scope} {x : Str} (h : glB sc x = true) : sc.names.lookup x = some .globalImplicit := by
  unfold glB at h
  split at h
  · assumption
  · cases h
theorem lcB_ok {sc : Scope} {x : Str} (h : lcB sc x = true) : sc.names.lookup x = some .local := by
  unfold lcB at h
  split at h
  · assumption
  · cases h
def okN (x : Str) : Bool := !(x == ("__debug__" : Str)) && !(x == ("__classdict__" : Str))
def chkC (e : Expr) (v : IV) : Bool := match e with
  | .Constant (.int i) _ _ => (match v with
    | .int j => decide (i = j)
    | _ => false)
  | .Constant (.str i) _ _ => (match v with
    | .str j => decide (i = j)
    | _ => false)
  | .Constant (.bool i) _ _ => (match v with
    | .bl j => i == j
    | _ => false)
  | .Constant .none _ _ => (match v with
    | .non => true
    | _ => false)
  | _ => false
def allB {α β : Type} (f : α → β → Bool) : List α → List β → Bool
  | [], [] => true
  | x :: xs, y :: ys => f x y && allB f xs ys
  | _, _ => false
def chkT : Nat → CC → Expr → T → Bool
  | 0, _, _, _ => false
  | n + 1, C, e, t => (match t with
    | .n i => (match e with
      | .Name x _ => decide (C.N[i]? = some x) && locB C.sc x && (C.fn x || lcB C.sc x)
      | _ => false)
    | .t ts => (match e with
      | .Tuple es _ _ => es.all notStar && allB (chkT n C) es ts
      | _ => false))
def biName : Bi → Str
  | .len => "len"
  | .abs => "abs"
  | .int => "int"
  | .all => "all"
  | .any => "any"
  | .sum => "sum"
  | .min => "min"
  | .max => "max"
  | .tuple => "tuple"
  | .isi => "isinstance"
  | .repr => "repr"
def notSetE : Expr → Bool
  | .Set _ _ _ => false
  | _ => true
def blt (C : CC) (x : Str) : Bool := glB C.sc x && C.bn.contains x
def chkI (f : Expr → E → Bool) (C : CC) (tg e : Expr) (x : E) : Bool := match x with
  | .it a => f e a && notSetE e
  | .rng1 a => (match e with
    | .Call (.Name y _) [ea] [] _ => decide (y = "range") && blt C "range" && notStar ea && f ea a
    | _ => false)
  | .rng2 a b => (match e with
    | .Call (.Name y _) [ea, eb] [] _ => decide (y = "range") && blt C "range" && notStar ea && notStar eb && f ea a && f eb b
    | _ => false)
  | .enum a => (match e with
    | .Call (.Name y _) [ea] [] _ => decide (y = "enumerate") && blt C "enumerate" && !notTup tg && notStar ea && f ea a
    | _ => false)
  | .zip a b => (match e with
    | .Call (.Name y _) [ea, eb] [] _ => decide (y = "zip") && blt C "zip" && !notTup tg && notStar ea && notStar eb && f ea a && f eb b
    | _ => false)
  | _ => false
def CC.blk (C : CC) (scope : Scope) : CC := { C with sc := relS scope C.sc, fn := fun x => scope.names.lookup x == some .cell }
def ownP (N : List Str) (own : List Nat) : List (Str × Nat) := own.map fun i => ((N[i]?).getD "", i)
theorem ownP_map (N : List Str) (own : List Nat) : (ownP N own).map (·.2) = own := by simp [ownP, Function.comp_def]
/-- tests may be anything but a conditional expression -/
def tst : Expr → Bool
  | .IfExp _ _ _ _ => false
  | _ => true
def opOk (o : Operator) : Bool := match o with
  | .Add => true
  | .Sub => true
  | .Mult => true
  | .FloorDiv => true
  | .Mod => true
  | .Pow => true
  | _ => false
theorem opOk_ok {op : Operator} (h : opOk op = true) : op = .Add ∨ op = .Sub ∨ op = .Mult ∨ op = .FloorDiv ∨ op = .Mod ∨ op = .Pow := by
  cases op <;> simp_all [opOk]
def chkE : Nat → CC → Expr → E → Bool
  | 0, _, _, _ => false
  | n + 1, C, e, x => (match x with
    | .c v => chkC e v
    | .v i => (match e with
      | .Name y _ => decide (C.N[i]? = some y) && visB C.sc y && okN y
      | _ => false)
    | .g y v => (match e with
      | .Name z _ => decide (z = y) && glB C.sc y && okN y && (C.gs.any fun p => decide (p.1 = y) && eqAtom p.2 v)
      | _ => false)
    | .bin op a b => (match e with
      | .BinOp ea op' eb _ => decide (op' = op) && opOk op && chkE n C ea a && chkE n C eb b
      | _ => false)
    | .cat a b => (match e with
      | .BinOp ea op' eb _ => decide (op' = .Add) && chkE n C ea a && chkE n C eb b
      | _ => false)
    | .neg a => (match e with
      | .UnaryOp op ea _ => decide (op = .USub) && chkE n C ea a
      | _ => false)
    | .not a => (match e with
      | .UnaryOp op ea _ => decide (op = .Not) && tst ea && chkE n C ea a
      | _ => false)
    | .and a b => (match e with
      | .BoolOp .And (ea :: eb :: es) p => tst ea && chkE n C ea a && (match es with
        | [] => tst eb && chkE n C eb b
        | _ => chkE n C (.BoolOp .And (eb :: es) p) b)
      | _ => false)
    | .or a b => (match e with
      | .BoolOp .Or (ea :: eb :: es) p => tst ea && chkE n C ea a && (match es with
        | [] => tst eb && chkE n C eb b
        | _ => chkE n C (.BoolOp .Or (eb :: es) p) b)
      | _ => false)
    | .cmp op a b => (match e with
      | .Compare ea [op'] [eb] _ => decide (op' = op) && !behindInMarks op' eb && chkE n C ea a && chkE n C eb b
      | _ => false)
    | .chain o1 o2 a b c => (match e with
      | .Compare ea [p1, p2] [eb, ec] _ => decide (p1 = o1) && decide (p2 = o2) && !lastMarks [p1, p2] [eb, ec] && chkE n C ea a && chkE n C eb b && chkE n C ec c
      | _ => false)
    | .ite c a b => (match e with
      | .IfExp ec ea eb _ => tst ec && chkE n C ec c && chkE n C ea a && chkE n C eb b
      | _ => false)
    | .tup es => (match e with
      | .Tuple ees _ _ => ees.all notStar && allB (chkE n C) ees es
      | _ => false)
    | .lst m es => (match e with
      | .List ees _ => ees.all notStar && allB (chkE n C) ees es
      | _ => false)
    | .idx a b => (match e with
      | .Subscript ea eb _ => notSlice eb && chkE n C ea a && chkE n C eb b
      | _ => false)
    | .sLo a b => (match e with
      | .Subscript ea (.Slice (some eb) none none _) _ => chkE n C ea a && chkE n C eb b
      | _ => false)
    | .sHi a b => (match e with
      | .Subscript ea (.Slice none (some eb) none _) _ => chkE n C ea a && chkE n C eb b
      | _ => false)
    | .sBo a b c => (match e with
      | .Subscript ea (.Slice (some eb) (some ec) none _) _ => chkE n C ea a && chkE n C eb b && chkE n C ec c
      | _ => false)
    | .rev a => (match e with
      | .Subscript ea (.Slice none none (some (.UnaryOp .USub (.Constant (.int 1) _ _) _)) _) _ => chkE n C ea a
      | _ => false)
    | .lc m own tg it ifs elt => (match e with
      | .ListComp eelt [⟨etg, eit, eifs, 0⟩] scope _ => blkC C.N C.sc scope (ownP C.N own) && ((slT tg).all fun i => own.contains i) && notSetE eit && chkI (chkE n C) C etg eit it && chkT n (C.blk scope) etg tg && chkE n (C.blk scope) eelt elt && (match ifs with
        | [] => (match eifs with
          | [] => true
          | _ => false)
        | [t] => (match eifs with
          | [et] => tst et && chkE n (C.blk scope) et t
          | _ => false)
        | _ => false)
      | _ => false)
    | .call m f es => (match e with
      | .Call (.Name y _) (e1 :: es1) [] _ => decide (C.fns.lookup f = some y) && glB C.sc y && okN y && (e1 :: es1).all notStar && allB (chkE n C) (e1 :: es1) es
      | _ => false)
    | .bi b es => (match e with
      | .Call (.Name y _) (e1 :: es1) [] _ => decide (y = biName b) && blt C y && notStar e1 && es1.all notStar && allB (chkE n C) (e1 :: es1) es
      | _ => false)
    | .lstOf m a => (match e with
      | .Call (.Name y _) [ea] [] _ => decide (y = "list") && blt C "list" && notStar ea && chkE n C ea a
      | _ => false)
    | .srt m a => (match e with
      | .Call (.Name y _) [ea] [] _ => decide (y = "sorted") && blt C "sorted" && notStar ea && chkE n C ea a
      | _ => false)
    | .app a b => (match e with
      | .Call (.Attribute ea m ap) [eb] [] p => decide (m = "append") && notStar eb && notSup ea && (ap.endLine == p.line) && chkE n C ea a && chkE n C eb b
      | _ => false)
    | .ext a b => (match e with
      | .Call (.Attribute ea m ap) [eb] [] p => decide (m = "extend") && notStar eb && notSup ea && (ap.endLine == p.line) && chkE n C ea a && chkE n C eb b
      | _ => false)
    | .pop a => (match e with
      | .Call (.Attribute ea m ap) [] [] p => decide (m = "pop") && notSup ea && (ap.endLine == p.line) && chkE n C ea a
      | _ => false)
    | .popAt a b => (match e with
      | .Call (.Attribute ea m ap) [eb] [] p => decide (m = "pop") && notStar eb && notSup ea && (ap.endLine == p.line) && chkE n C ea a && chkE n C eb b
      | _ => false)
    | _ => false)
end DP

set_option Elab.async false
set_option linter.all false
set_option maxRecDepth 100000
set_option maxHeartbeats 4000000
/-! Ev20: the checker of expressions is right. -/
namespace DP
open PySem PySem.Spec L2

def GloOk (mg : G) (x : Str) (v : IV) : Prop := ∃ v', (∀ L H, Rep mg L H v v') ∧ ((∃ u, mg.m x = some u ∧ RelV v' u) ∨ (mg.m x = none ∧ x ≠ "__name__" ∧ ∃ u, bootBuiltins x = some u ∧ RelV v' u))
/-- the functions of the program -/
def FnsOk (P : Program) (w : World) (K : PySem.W.Frag) (mg : Str → Option Value) (base : Heap) (k : Nat) (fs : FS) : Prop :=
  ∀ (i : Nat) (F : Fn), lookF fs i = some F → ∃ a fd, mg F.name = some (.ref a) ∧ PySem.W.keepIn K (.ref a) = true ∧ Binds K fd F.ps [] ∧ F.bor.length = F.ps.length ∧ FnG P w K mg base (L2.CX P w) k a fd F.ps (spF ⟨mg, K⟩ F)
structure Rdy (X : Cx) (W : WX) (C : CC) (k : Nat) (fs : FS) : Prop where
  hN : X.N = C.N
  nd : C.N.Nodup
  sc : X.env.scope = C.sc
  kind : C.sc.kind = .function
  fn : X.fn = C.fn
  calm : X.calm = true
  room : Room k X.A
  gd : X.A.guards = some []
  tk : Takes X W
  own : PassesOwn (model X.prog X.w) X.A X.env X.xe
  fns : FnsOk X.prog X.w X.K X.mg X.base k fs
  nms : ∀ f y, C.fns.lookup f = some y → ∃ F, lookF fs f = some F ∧ F.name = y
  glo : ∀ p ∈ C.gs, GloOk X.g p.1 p.2
  bn : ∀ x ∈ C.bn, X.mg x = none
section
variable {X : Cx} {W : WX} {C : CC} {k : Nat} {fs : FS}
theorem Rdy.blk (R : Rdy X W C k fs) {s : Shared} {H : Hp} {Cc : Addr} {cl : List (Str × Addr)} {fp : List Addr} {scope : Scope} (hk : scope.kind = .function) : Rdy (X.blk s H scope (compEnvC scope cl Cc X.env) fp) W0 (C.blk scope) k fs where
  hN := R.hN
  nd := R.nd
  sc := by
    show relS scope X.env.scope = relS scope C.sc
    rw [R.sc]
  kind := hk
  fn := rfl
  calm := R.calm
  room := R.room
  gd := R.gd
  tk := fun u s' ⟨a, B, sI, pins, σ, H, cls, d, e, I, nb, up, sky, na, os, ag, w⟩ => w.elim
  own := PassesOwn.never
  fns := R.fns
  nms := R.nms
  glo := R.glo
  bn := R.bn
theorem Rdy.gl (R : Rdy X W C k fs) {x : Str} (h : glB C.sc x = true) : Gl X x := by
  show X.env.scope.names.lookup x = _
  rw [R.sc]
  exact glB_ok h
theorem Rdy.un (R : Rdy X W C k fs) : X.A.units + 100 < cLine := by have := R.room.un; omega
theorem Rdy.blt (R : Rdy X W C k fs) {x : Str} (h : DP.blt C x = true) : Gl X x ∧ X.mg x = none := by
  obtain ⟨h1, h2⟩ := Bool.and_eq_true_iff.mp h
  exact ⟨R.gl h1, R.bn x (by simpa using h2)⟩
theorem okN_ok {x : Str} (h : okN x = true) : (x == ("__debug__" : Str)) = false ∧ (x == ("__classdict__" : Str)) = false := by
  unfold okN at h
  simp only [Bool.and_eq_true, Bool.not_eq_true'] at h
  exact h
def plainT : Expr → Bool
  | .UnaryOp .Not _ _ => false
  | .BoolOp _ _ _ => false
  | .IfExp _ _ _ _ => false
  | .Compare _ _ _ _ => false
  | _ => true
theorem isTrue_plain {e : Expr} {env : PySem.Env} (h : plainT e = true) : ∀ whole, isTrue e env whole = (do let v ← whole; standAt e.pos; holding [v] (truthy v)) := by
  intro whole
  cases e with
  | UnaryOp op _ _ => cases op <;> first | rfl | (simp [plainT] at h; done)
  | BoolOp => simp [plainT] at h
  | IfExp => simp [plainT] at h
  | Compare => simp [plainT] at h
  | _ => rfl
theorem not_set {e : Expr} {env : PySem.Env} (h : notSetE e = true) : ∀ x, foldedSetIterable e env x = pure x := by
  intro x
  cases e <;> first | rfl | (simp [notSetE] at h)

/-! ### targets -/
theorem chkT_ok (R : Rdy X W C k fs) : ∀ (n : Nat) (e : Expr) (t : T), chkT n C e t = true → PG X e (rdG X.g t)
  | 0, _, _, h => by simp [chkT] at h
  | n + 1, e, t, h => by
    cases t with
    | n i =>
      simp only [chkT] at h
      split at h
      · rename_i x p
        simp only [Bool.and_eq_true, decide_eq_true_eq] at h
        obtain ⟨⟨h1, h2⟩, h3⟩ := h
        refine sg_name (by rw [R.hN]; exact R.nd) (by rw [R.hN]; exact h1) (by rw [R.sc]; exact locB_ok h2) ?_
        rw [R.sc, R.fn]
        rcases Bool.or_eq_true_iff.mp h3 with q | q
        · exact .inl q
        · exact .inr (lcB_ok q)
      · cases h
    | t ts =>
      simp only [chkT] at h
      split at h
      · rename_i es k p
        obtain ⟨h1, h2⟩ := Bool.and_eq_true_iff.mp h
        have go : ∀ (es : List Expr) (ts : List T), es.all notStar = true → allB (chkT n C) es ts = true → PGs X es (rdGs X.g ts) ∧ ts.length = es.length := by
          intro es
          induction es with
          | nil =>
            intro ts _ h
            cases ts with
            | nil => exact ⟨sgs_nil, rfl⟩
            | cons => simp [allB] at h
          | cons e es ih =>
            intro ts hs h
            cases ts with
            | nil => simp [allB] at h
            | cons t ts =>
              simp only [allB, Bool.and_eq_true] at h
              obtain ⟨q1, q2⟩ := Bool.and_eq_true_iff.mp (show (notStar e && es.all notStar) = true from hs)
              obtain ⟨r1, r2⟩ := ih ts q2 h.2
              exact ⟨sgs_cons (chkT_ok R n e t h.1) r1 q1, by simp [r2]⟩
        obtain ⟨g1, g2⟩ := go es ts h1 h2
        exact sg_tup R.calm g1 h1 g2
      · cases h
end

/-! ### expressions -/
structure Snd (X : Cx) (W : WX) (fs : FS) (e : Expr) (x : E) : Prop where
  pe : PE X e (rdE X.g W (denE fs x))
  pt : tst e = true → PT X e (rdT X.g W (denE fs x))
  pw : ∀ op es p, e = .BoolOp op es p → PW X e (rdT X.g W (denE fs x))
section
variable {X : Cx} {W : WX} {C : CC} {k : Nat} {fs : FS}
theorem Snd.val {e : Expr} {x : E} (h : PE X e (rdE X.g W (denE fs x))) (hp : plainT e = true) : Snd X W fs e x :=
  ⟨h, fun _ => st_val h (isTrue_plain hp), fun op es p q => by subst q; simp [plainT] at hp⟩
theorem args_ok {n : Nat} (ih : ∀ e x, chkE n C e x = true → Snd X W fs e x) : ∀ (es : List Expr) (xs : List E), es.all notStar = true → allB (chkE n C) es xs = true → PA X es (rdP X.g W (denPs fs xs)) ∧ PA X es (rdV X.g W (denEs fs xs))
  | [], [], _, _ => ⟨sp_nil, sv_nil⟩
  | [], _ :: _, _, h => by simp [allB] at h
  | _ :: _, [], _, h => by simp [allB] at h
  | e :: es, x :: xs, hs, h => by
    simp only [allB, Bool.and_eq_true] at h
    obtain ⟨q1, q2⟩ := Bool.and_eq_true_iff.mp (show (notStar e && es.all notStar) = true from hs)
    obtain ⟨r1, r2⟩ := args_ok ih es xs q2 h.2
    have s := ih e x h.1
    exact ⟨sp_cons q1 s.pe r1, sv_cons q1 s.pe r2⟩
theorem chkI_ok (R : Rdy X W C k fs) {n : Nat} (ih : ∀ e x, chkE n C e x = true → Snd X W fs e x) {tg e : Expr} {x : E} (h : chkI (chkE n C) C tg e x = true) : PI X tg e (rdI X.g W (denI fs x)) := by
  unfold chkI at h
  split at h
  · obtain ⟨h1, _⟩ := Bool.and_eq_true_iff.mp h
    exact si_seq (ih _ _ h1).pe
  · split at h
    · simp only [Bool.and_eq_true, decide_eq_true_eq] at h
      obtain ⟨⟨⟨h1, h2⟩, h3⟩, h4⟩ := h
      subst h1
      obtain ⟨g, m⟩ := R.blt h2
      exact si_rng1 g m h3 (ih _ _ h4).pe
    · cases h
  · split at h
    · simp only [Bool.and_eq_true, decide_eq_true_eq] at h
      obtain ⟨⟨⟨⟨⟨h1, h2⟩, h3⟩, h4⟩, h5⟩, h6⟩ := h
      subst h1
      obtain ⟨g, m⟩ := R.blt h2
      exact si_rng2 g m h3 h4 (ih _ _ h5).pe (ih _ _ h6).pe
    · cases h
  · split at h
    · simp only [Bool.and_eq_true, decide_eq_true_eq, Bool.not_eq_true'] at h
      obtain ⟨⟨⟨⟨h1, h2⟩, h5⟩, h3⟩, h4⟩ := h
      subst h1
      obtain ⟨g, m⟩ := R.blt h2
      cases tg with
      | Tuple es kk tp => exact si_enum g m h3 (ih _ _ h4).pe
      | _ => simp [notTup] at h5
    · cases h
  · split at h
    · simp only [Bool.and_eq_true, decide_eq_true_eq, Bool.not_eq_true'] at h
      obtain ⟨⟨⟨⟨⟨⟨h1, h2⟩, h5⟩, h3⟩, h6⟩, h4⟩, h7⟩ := h
      subst h1
      obtain ⟨g, m⟩ := R.blt h2
      cases tg with
      | Tuple es kk tp => exact si_zip g m h3 h6 (ih _ _ h4).pe (ih _ _ h7).pe
      | _ => simp [notTup] at h5
    · cases h
  · cases h
theorem bi_ok (R : Rdy X W C k fs) {b : Bi} {p pos : Pos} {e : Expr} {es : List Expr} {dp : Env → OS → Res (List PV)} (g : Gl X (biName b)) (m : X.mg (biName b) = none) (h1 : notStar e = true) (h2 : es.all notStar = true) (ha : PA X (e :: es) (rdP X.g W dp)) :
    PE X (.Call (.Name (biName b) p) (e :: es) [] pos) (rdE X.g W (fun env os => (dp env os).bind fun vs os1 => biF b vs os1)) := by
  have hu := R.un
  cases b with
  | len => exact sd_biB bi_len g m (by decide +kernel) (by decide) (by decide) h1 h2 ha
  | abs => exact sd_biB bi_abs g m (by decide +kernel) (by decide) (by decide) h1 h2 ha
  | int => exact sd_biT bi_int g m (by decide +kernel) (by decide) (by decide) h1 h2 ha
  | all => exact sd_biB (bi_all R.calm) g m (by decide +kernel) (by decide) (by decide) h1 h2 ha
  | any => exact sd_biB (bi_any R.calm) g m (by decide +kernel) (by decide) (by decide) h1 h2 ha
  | sum => exact sd_biB (bi_sum R.calm) g m (by decide +kernel) (by decide) (by decide) h1 h2 ha
  | min => exact sd_biB (bi_min R.calm (by omega)) g m (by decide +kernel) (by decide) (by decide) h1 h2 ha
  | max => exact sd_biB (bi_max R.calm (by omega)) g m (by decide +kernel) (by decide) (by decide) h1 h2 ha
  | tuple => exact sd_biT bi_tuple g m (by decide +kernel) (by decide) (by decide) h1 h2 ha
  | isi => exact sd_biB bi_isi g m (by decide +kernel) (by decide) (by decide) h1 h2 ha
  | repr => exact sd_biB (bi_repr R.gd (by omega)) g m (by decide +kernel) (by decide) (by decide) h1 h2 ha
end
end DP

set_option Elab.async false
set_option linter.all false
set_option maxRecDepth 100000
set_option maxHeartbeats 4000000
/-! Ev21: the checker of expressions is right (the induction). -/
namespace DP
open PySem PySem.Spec L2

theorem const_ok {X : Cx} {W : WX} {fs : FS} {e : Expr} {v : IV} (h : chkC e v = true) : PE X e (rdE X.g W (denE fs (.c v))) := by
  unfold chkC at h
  split at h
  · split at h
    · have := of_decide_eq_true h; subst this; exact sd_cst (v' := .int _) (fun _ _ => .int _) pe_int
    · cases h
  · split at h
    · have := of_decide_eq_true h; subst this; exact sd_cst (v' := .str _) (fun _ _ => .str _) pe_str
    · cases h
  · split at h
    · have := eq_of_beq h
      subst this; exact sd_cst (v' := .bl _) (fun _ _ => .bl _) pe_bl
    · cases h
  · split at h
    · exact sd_cst (v' := .non) (fun _ _ => .non) pe_non
    · cases h
  · cases h
theorem const_plain {e : Expr} {v : IV} (h : chkC e v = true) : plainT e = true := by
  unfold chkC at h
  split at h <;> first | rfl | cases h
theorem chkE_ok {k : Nat} {fs : FS} : ∀ (n : Nat) {X : Cx} {W : WX} {C : CC} (_ : Rdy X W C k fs) (e : Expr) (x : E), chkE n C e x = true → Snd X W fs e x
  | 0, _, _, _, _, _, _, h => by simp [chkE] at h
  | n + 1, X, W, C, R, e, x, h => by
    have ih : ∀ e x, chkE n C e x = true → Snd X W fs e x := fun e x h => chkE_ok n R e x h
    have hu := R.un
    cases x with
    | c v => exact .val (const_ok h) (const_plain h)
    | v i =>
      simp only [chkE] at h
      split at h
      · simp only [Bool.and_eq_true, decide_eq_true_eq] at h
        obtain ⟨⟨h1, h2⟩, h3⟩ := h
        obtain ⟨n1, n2⟩ := okN_ok h3
        exact .val (sd_var (by rw [R.hN]; exact h1) (by rw [R.sc]; exact visB_ok h2) n1 n2) rfl
      · cases h
    | g y v =>
      simp only [chkE] at h
      split at h
      · simp only [Bool.and_eq_true, decide_eq_true_eq, List.any_eq_true] at h
        obtain ⟨⟨⟨h1, h2⟩, h3⟩, p, hp, h4, h5⟩ := h
        subst h1
        have := eqAtom_eq h5
        subst this
        obtain ⟨n1, n2⟩ := okN_ok h3
        obtain ⟨v', r, q⟩ := R.glo p hp
        rw [h4] at q
        rcases q with ⟨u, a, b⟩ | ⟨a, b, u, c, d⟩
        · exact .val (sd_cst r (pe_glob (R.gl h2) a b n1)) rfl
        · exact .val (sd_cst r (pe_bltn (R.gl h2) a c d b n1)) rfl
      · cases h
    | bin op a b =>
      simp only [chkE] at h
      split at h
      · simp only [Bool.and_eq_true, decide_eq_true_eq] at h
        obtain ⟨⟨⟨h1, h2⟩, h3⟩, h4⟩ := h
        subst h1
        exact .val (sd_bin (opOk_ok h2) (ih _ _ h3).pe (ih _ _ h4).pe) rfl
      · cases h
    | cat a b =>
      simp only [chkE] at h
      split at h
      · simp only [Bool.and_eq_true, decide_eq_true_eq] at h
        obtain ⟨⟨h1, h3⟩, h4⟩ := h
        subst h1
        exact .val (sd_cat (ih _ _ h3).pe (ih _ _ h4).pe) rfl
      · cases h
    | neg a =>
      simp only [chkE] at h
      split at h
      · simp only [Bool.and_eq_true, decide_eq_true_eq] at h
        obtain ⟨h1, h2⟩ := h
        subst h1
        exact .val (sd_neg (ih _ _ h2).pe) rfl
      · cases h
    | not a =>
      simp only [chkE] at h
      split at h
      · simp only [Bool.and_eq_true, decide_eq_true_eq] at h
        obtain ⟨⟨h1, h3⟩, h2⟩ := h
        subst h1
        exact ⟨sd_not (ih _ _ h2).pe, fun _ => st_not ((ih _ _ h2).pt h3), fun op es p q => by cases q⟩
      · cases h
    | and a b =>
      simp only [chkE] at h
      split at h
      · rename_i ea eb es p
        simp only [Bool.and_eq_true] at h
        obtain ⟨⟨h1, h2⟩, h3⟩ := h
        have sa := ih _ _ h2
        have key : PE X (.BoolOp .And (eb :: es) p) (rdE X.g W (denE fs b)) ∧ PW X (.BoolOp .And (eb :: es) p) (rdT X.g W (denE fs b)) := by
          split at h3
          · obtain ⟨q1, q2⟩ := Bool.and_eq_true_iff.mp h3
            have sb := ih _ _ q2
            exact ⟨sd_one sb.pe, pw_and1 (sb.pt q1)⟩
          · have sb := ih _ _ h3
            exact ⟨sb.pe, sb.pw _ _ _ rfl⟩
        have w := st_and (sa.pt h1) key.2
        exact ⟨sd_and sa.pe key.1, fun _ => w.pt, fun op es p q => w⟩
      · cases h
    | or a b =>
      simp only [chkE] at h
      split at h
      · rename_i ea eb es p
        simp only [Bool.and_eq_true] at h
        obtain ⟨⟨h1, h2⟩, h3⟩ := h
        have sa := ih _ _ h2
        have key : PE X (.BoolOp .Or (eb :: es) p) (rdE X.g W (denE fs b)) ∧ PW X (.BoolOp .Or (eb :: es) p) (rdT X.g W (denE fs b)) := by
          split at h3
          · obtain ⟨q1, q2⟩ := Bool.and_eq_true_iff.mp h3
            have sb := ih _ _ q2
            exact ⟨sd_one sb.pe, pw_or1 (sb.pt q1)⟩
          · have sb := ih _ _ h3
            exact ⟨sb.pe, sb.pw _ _ _ rfl⟩
        have w := st_or (sa.pt h1) key.2
        exact ⟨sd_or sa.pe key.1, fun _ => w.pt, fun op es p q => w⟩
      · cases h
    | cmp op a b =>
      simp only [chkE] at h
      split at h
      · simp only [Bool.and_eq_true, decide_eq_true_eq, Bool.not_eq_true'] at h
        obtain ⟨⟨⟨h1, h2⟩, h3⟩, h4⟩ := h
        subst h1
        exact ⟨sd_cmp (by omega) h2 (ih _ _ h3).pe (ih _ _ h4).pe, fun _ => st_cmp (by omega) h2 (ih _ _ h3).pe (ih _ _ h4).pe, fun op es p q => by cases q⟩
      · cases h
    | chain o1 o2 a b c =>
      simp only [chkE] at h
      split at h
      · simp only [Bool.and_eq_true, decide_eq_true_eq, Bool.not_eq_true'] at h
        obtain ⟨⟨⟨⟨⟨h1, h2⟩, h3⟩, h4⟩, h5⟩, h6⟩ := h
        subst h1 h2
        exact ⟨sd_chain (by omega) h3 (ih _ _ h4).pe (ih _ _ h5).pe (ih _ _ h6).pe, fun _ => st_chain (by omega) h3 (ih _ _ h4).pe (ih _ _ h5).pe (ih _ _ h6).pe, fun op es p q => by cases q⟩
      · cases h
    | ite c a b =>
      simp only [chkE] at h
      split at h
      · simp only [Bool.and_eq_true] at h
        obtain ⟨⟨⟨h1, h2⟩, h3⟩, h4⟩ := h
        exact ⟨sd_ite ((ih _ _ h2).pt h1) (ih _ _ h3).pe (ih _ _ h4).pe, fun q => by simp [tst] at q, fun op es p q => by cases q⟩
      · cases h
    | tup es =>
      simp only [chkE] at h
      split at h
      · obtain ⟨h1, h2⟩ := Bool.and_eq_true_iff.mp h
        exact .val (sd_tup (args_ok ih _ _ h1 h2).2) rfl
      · cases h
    | lst m es =>
      simp only [chkE] at h
      split at h
      · obtain ⟨h1, h2⟩ := Bool.and_eq_true_iff.mp h
        exact .val (sd_lst (args_ok ih _ _ h1 h2).2) rfl
      · cases h
    | idx a b =>
      simp only [chkE] at h
      split at h
      · simp only [Bool.and_eq_true] at h
        obtain ⟨⟨h1, h2⟩, h3⟩ := h
        exact .val (sd_idx (plainIx h1) (ih _ _ h2).pe (ih _ _ h3).pe) rfl
      · cases h
    | sLo a b =>
      simp only [chkE] at h
      split at h
      · obtain ⟨h1, h2⟩ := Bool.and_eq_true_iff.mp h
        exact .val (sd_sLo (ih _ _ h1).pe (ih _ _ h2).pe) rfl
      · cases h
    | sHi a b =>
      simp only [chkE] at h
      split at h
      · obtain ⟨h1, h2⟩ := Bool.and_eq_true_iff.mp h
        exact .val (sd_sHi (ih _ _ h1).pe (ih _ _ h2).pe) rfl
      · cases h
    | sBo a b c =>
      simp only [chkE] at h
      split at h
      · simp only [Bool.and_eq_true] at h
        obtain ⟨⟨h1, h2⟩, h3⟩ := h
        exact .val (sd_sBo (ih _ _ h1).pe (ih _ _ h2).pe (ih _ _ h3).pe) rfl
      · cases h
    | rev a =>
      simp only [chkE] at h
      split at h
      · exact .val (sd_rev (ih _ _ h).pe) rfl
      · cases h
    | lc m own tg it ifs elt =>
      simp only [chkE] at h
      split at h
      · rename_i eelt etg eit eifs scope p
        simp only [Bool.and_eq_true] at h
        obtain ⟨⟨⟨⟨⟨⟨h1, h2⟩, h3⟩, h4⟩, h5⟩, h6⟩, h7⟩ := h
        have bo := blkOk_by h1
        have hk : scope.kind = .function := bo.kind
        have sub : ∀ i ∈ slT tg, i ∈ (ownP C.N own).map (·.2) := fun i hi => by
          rw [ownP_map]
          have := List.all_eq_true.mp h2 i hi
          simpa using this
        have bo' : BlkOk X.N X.env.scope scope (ownP C.N own) := by rw [R.hN, R.sc]; exact bo
        have tests : ∀ (s : Shared) (H : Hp) (Cc : Addr) (cl : List (Str × Addr)) (fp : List Addr), PTs (X.blk s H scope (compEnvC scope cl Cc X.env) fp) eifs (rdB X.g W0 (denTs fs ifs)) := by
          intro s H Cc cl fp
          split at h7
          · split at h7
            · exact sts_nil
            · cases h7
          · split at h7
            · obtain ⟨q1, q2⟩ := Bool.and_eq_true_iff.mp h7
              exact sts_one ((chkE_ok n (R.blk hk) _ _ q2).pt q1)
            · cases h7
          · cases h7
        have e := sd_lc (m := m) (t := tg) (pos := p) R.calm (by rw [R.hN]; exact R.nd) (chkI_ok R ih h4) bo' sub (fun s H Cc cl fp => chkT_ok (R.blk hk) n _ _ h5) tests (fun s H Cc cl fp => (chkE_ok n (R.blk hk) _ _ h6).pe) (not_set h3)
        rw [ownP_map] at e
        exact .val e rfl
      · cases h
    | call m f es =>
      simp only [chkE] at h
      split at h
      · rename_i y py e1 es1 pp
        simp only [Bool.and_eq_true, decide_eq_true_eq] at h
        obtain ⟨⟨⟨⟨h1, h2⟩, h3⟩, h4⟩, h5⟩ := h
        have pa := (args_ok ih _ _ (by simpa using h4) h5).1
        refine .val ?_ rfl
        obtain ⟨F, q, rfl⟩ := R.nms f y h1
        obtain ⟨a, fd, f1, f2, f3, f4, f5⟩ := R.fns f F q
        have e := sd_call (m := m) (p := py) (pos := pp) f4 f5 R.gd R.room (R.gl h2) f1 f2 f3 R.tk pa (okN_ok h3).1 (by simpa using h4)
        have eq : (fun env os => (denPs fs es env os).bind fun vs os1 => callF m F vs os1) = denE fs (.call m f es) := by
          funext env os
          show _ = ((denPs fs es env os).bind fun vs os1 => (match lookF fs f with
            | some F => callF m F vs os1
            | none => .bad))
          rw [q]
        rw [eq] at e
        exact e
      · cases h
    | bi b es =>
      simp only [chkE] at h
      split at h
      · simp only [Bool.and_eq_true, decide_eq_true_eq] at h
        obtain ⟨⟨⟨⟨h1, h2⟩, h3⟩, h4⟩, h5⟩ := h
        subst h1
        obtain ⟨g, m⟩ := R.blt h2
        exact .val (bi_ok R g m h3 (by simpa using h4) (args_ok ih _ _ (by simp [h3]; simpa using h4) h5).1) rfl
      · cases h
    | lstOf m a =>
      simp only [chkE] at h
      split at h
      · simp only [Bool.and_eq_true, decide_eq_true_eq] at h
        obtain ⟨⟨⟨h1, h2⟩, h3⟩, h4⟩ := h
        subst h1
        obtain ⟨g, mm⟩ := R.blt h2
        exact .val (sd_lso g mm h3 (ih _ _ h4).pe) rfl
      · cases h
    | srt m a =>
      simp only [chkE] at h
      split at h
      · simp only [Bool.and_eq_true, decide_eq_true_eq] at h
        obtain ⟨⟨⟨h1, h2⟩, h3⟩, h4⟩ := h
        subst h1
        obtain ⟨g, mm⟩ := R.blt h2
        exact .val (sd_srt (by omega) g mm h3 (ih _ _ h4).pe) rfl
      · cases h
    | app a b =>
      simp only [chkE] at h
      split at h
      · simp only [Bool.and_eq_true, decide_eq_true_eq] at h
        obtain ⟨⟨⟨⟨⟨h1, h2⟩, h3⟩, h4⟩, h5⟩, h6⟩ := h
        subst h1
        exact .val (sd_app h2 h3 h4 (ih _ _ h5).pe (ih _ _ h6).pe) rfl
      · cases h
    | ext a b =>
      simp only [chkE] at h
      split at h
      · simp only [Bool.and_eq_true, decide_eq_true_eq] at h
        obtain ⟨⟨⟨⟨⟨h1, h2⟩, h3⟩, h4⟩, h5⟩, h6⟩ := h
        subst h1
        exact .val (sd_ext h2 h3 h4 (ih _ _ h5).pe (ih _ _ h6).pe) rfl
      · cases h
    | pop a =>
      simp only [chkE] at h
      split at h
      · simp only [Bool.and_eq_true, decide_eq_true_eq] at h
        obtain ⟨⟨⟨h1, h3⟩, h4⟩, h5⟩ := h
        subst h1
        exact .val (sd_pop h3 h4 (ih _ _ h5).pe) rfl
      · cases h
    | popAt a b =>
      simp only [chkE] at h
      split at h
      · simp only [Bool.and_eq_true, decide_eq_true_eq] at h
        obtain ⟨⟨⟨⟨⟨h1, h2⟩, h3⟩, h4⟩, h5⟩, h6⟩ := h
        subst h1
        exact .val (sd_popAt h2 h3 h4 (ih _ _ h5).pe (ih _ _ h6).pe) rfl
      · cases h
    | it a => simp [chkE] at h
    | rng1 a => simp [chkE] at h
    | rng2 a b => simp [chkE] at h
    | enum a => simp [chkE] at h
    | zip a b => simp [chkE] at h
end DP

set_option Elab.async false
set_option linter.all false
set_option maxRecDepth 100000
set_option maxHeartbeats 4000000
/-! Ev22: the checker of statements, and that it is right. -/
namespace DP
open PySem PySem.Spec L2

def chkSs (f : Stmt → S → Bool) : List Stmt → List S → Bool
  | sts, .frz _ :: ss => chkSs f sts ss
  | [], [] => true
  | st :: sts, s :: ss => f st s && chkSs f sts ss
  | _, _ => false
def nmB (C : CC) (i : Nat) (x : Str) : Bool := decide (C.N[i]? = some x) && locB C.sc x && (C.fn x || lcB C.sc x)
def namesB (C : CC) : List Nat → List Expr → Bool
  | [], [] => true
  | i :: is, .Name x _ :: es => nmB C i x && namesB C is es
  | _, _ => false
/-- how a written tuple goes to names -/
def parB (C : CC) (tes ees : List Expr) : Bool := match tes with
  | [.Name x px, .Name y py] => (match ees with
    | [a, b] => (py.line == px.line) && (if lcB C.sc x && lcB C.sc y then !(x == y) && !([a, b].all (foldedForSure 8)) && !([a, b].all (constantsAlone 8)) else true)
    | _ => false)
  | [.Name x px, .Name y py, .Name z pz] => (match ees with
    | [a, b, c] => (py.line == px.line) && (pz.line == px.line) && (if lcB C.sc x && lcB C.sc y && lcB C.sc z then !(x == y) && !(x == z) && !(y == z) && !([a, b, c].all (foldedForSure 8)) && !([a, b, c].all (constantsAlone 8)) else true)
    | _ => false)
  | _ => false
def swB (C : CC) (x : Str) (p p2 : Pos) (scope : Scope) : Bool := lcB C.sc x && p.line == p2.line && !(scope.names.any fun (m, k) => m == x && (k == .local || k == .cell))
def chkS : Nat → CC → Stmt → S → Bool
  | 0, _, _, _ => false
  | n + 1, C, st, s => (match s with
    | .ex e => (match st with
      | .Expr ee _ => notComp ee && chkE n C ee e
      | _ => false)
    | .asg (.n i) e => (match st with
      | .Assign [.Name x p] ee pos => nmB C i x && chkE n C ee e && (match ee with
        | .ListComp _ _ scope p2 => if swB C x p p2 scope then (match e with
          | .lc _ _ _ _ _ _ => true
          | _ => false) else true
        | ee => notComp ee)
      | _ => false)
    | .asg (.t ts) e => (match st with
      | .Assign [.Tuple tes k p] ee pos => chkT n C (.Tuple tes k p) (.t ts) && notTup ee && chkE n C ee e
      | _ => false)
    | .par is es => (match st with
      | .Assign [.Tuple tes _ _] (.Tuple ees _ _) _ => ees.all notStar && allB (chkE n C) ees es && namesB C is tes && parB C tes ees
      | _ => false)
    | .sub o i e => (match st with
      | .Assign [.Subscript eo ei p] ee pos => notComp ee && notSlice ei && chkE n C eo o && chkE n C ei i && chkE n C ee e
      | _ => false)
    | .aug i op e => (match st with
      | .AugAssign (.Name x _) op' ee _ => nmB C i x && decide (op' = op) && (decide (op = .Add) || decide (op = .Sub)) && chkE n C ee e
      | _ => false)
    | .ife c a b => (match st with
      | .If ec ea eb _ => tst ec && chkE n C ec c && chkSs (chkS n C) ea a && chkSs (chkS n C) eb b
      | _ => false)
    | .for t it b => (match st with
      | .For etg eit eb [] _ => chkI (chkE n C) C etg eit it && chkT n C etg t && notSetE eit && chkSs (chkS n C) eb b
      | _ => false)
    | .whl c b => (match st with
      | .While ec eb [] _ => tst ec && chkE n C ec c && chkSs (chkS n C) eb b
      | _ => false)
    | .ret e => (match st with
      | .Return (some ee) _ => chkE n C ee e
      | _ => false)
    | .retN => (match st with
      | .Return none _ => true
      | _ => false)
    | .brk => (match st with
      | .Break _ => true
      | _ => false)
    | .cnt => (match st with
      | .Continue _ => true
      | _ => false)
    | .pas => (match st with
      | .Pass _ => true
      | _ => false)
    | .never => true
    | .frz _ => false)

section
variable {X : Cx} {W : WX} {C : CC} {k : Nat} {fs : FS}
theorem Rdy.nm (R : Rdy X W C k fs) {i : Nat} {x : Str} (h : nmB C i x = true) : X.N.Nodup ∧ X.N[i]? = some x ∧ Loc X.env.scope x ∧ (X.fn x = true ∨ X.env.scope.names.lookup x = some .local) := by
  unfold nmB at h
  simp only [Bool.and_eq_true, decide_eq_true_eq] at h
  obtain ⟨⟨h1, h2⟩, h3⟩ := h
  refine ⟨by rw [R.hN]; exact R.nd, by rw [R.hN]; exact h1, by rw [R.sc]; exact locB_ok h2, ?_⟩
  rw [R.sc, R.fn]
  rcases Bool.or_eq_true_iff.mp h3 with q | q
  · exact .inl q
  · exact .inr (lcB_ok q)
theorem names_ok (R : Rdy X W C k fs) : ∀ {is : List Nat} {es : List Expr}, namesB C is es = true → NamesOk X is es
  | [], [], _ => .nil
  | [], _ :: _, h => by simp [namesB] at h
  | _ :: _, [], h => by simp [namesB] at h
  | i :: is, e :: es, h => by
    cases e with
    | Name x p =>
      simp only [namesB, Bool.and_eq_true] at h
      obtain ⟨h0, h1, h2, h3⟩ := R.nm h.1
      exact .cons h1 h2 h3 (names_ok R h.2)
    | _ => simp [namesB] at h
theorem lcB_kind (R : Rdy X W C k fs) (x : Str) : (X.env.kindOf x == some .local) = lcB C.sc x := by
  show (X.env.scope.names.lookup x == some .local) = _
  rw [R.sc]
  unfold lcB
  split
  · rename_i e; rw [e]; rfl
  · rename_i e
    cases q : C.sc.names.lookup x with
    | none => rfl
    | some kk => cases kk <;> first | rfl | exact absurd q e
theorem Rdy.kindX (R : Rdy X W C k fs) : X.env.scope.kind = .function := by rw [R.sc]; exact R.kind
theorem names_nd (R : Rdy X W C k fs) {i j : Nat} {x y : Str} (h1 : X.N[i]? = some x) (h2 : X.N[j]? = some y) (h : (x == y) = false) : i ≠ j := fun e => by
  subst e
  rw [h1] at h2
  cases h2
  simp at h
theorem par_ok (R : Rdy X W C k fs) {is : List Nat} {tes ees : List Expr} {kt k2 : Nat} {pt p2 pos : Pos} {dp : Env → OS → Res (List PV)} (hn : namesB C is tes = true) (hp : parB C tes ees = true) (hst : ees.all notStar = true) (ha : PA X ees (rdP X.g W dp)) :
    PS X (.Assign [.Tuple tes kt pt] (.Tuple ees k2 p2) pos) (rdS X.g W fun env os => (dp env os).toSR env fun vs os1 => setAllF is vs env os1) := by
  have no := names_ok R hn
  have nd : X.N.Nodup := by rw [R.hN]; exact R.nd
  unfold parB at hp
  split at hp
  · rename_i x px y py
    split at hp
    · rename_i a b
      obtain ⟨h1, h2⟩ := Bool.and_eq_true_iff.mp hp
      simp only [List.all_cons, List.all_nil, Bool.and_true, Bool.and_eq_true] at hst
      cases no with
      | cons hi lx fx no =>
        cases no with
        | cons hj ly fy no =>
          cases no
          by_cases hl : (lcB C.sc x && lcB C.sc y) = true
          · rw [if_pos hl] at h2
            obtain ⟨l1, l2⟩ := Bool.and_eq_true_iff.mp hl
            simp only [Bool.and_eq_true, Bool.not_eq_true'] at h2
            obtain ⟨⟨h3, h4⟩, h5⟩ := h2
            have kx : X.env.scope.names.lookup x = some .local := by rw [R.sc]; exact lcB_ok l1
            have ky : X.env.scope.names.lookup y = some .local := by rw [R.sc]; exact lcB_ok l2
            exact ss_par2 R.calm nd hi hj (names_nd R hi hj h3) kx ky ha (sw2 R.kindX kx ky h1 h3 hst.1 hst.2 h4 h5)
          · refine ss_parN R.calm nd (.cons hi lx fx (.cons hj ly fy .nil)) ha (sw2n R.kindX ?_ h1 hst.1 hst.2) rfl
            rw [lcB_kind R, lcB_kind R]
            simpa using hl
    · cases hp
  · rename_i x px y py z pz
    split at hp
    · rename_i a b c
      simp only [Bool.and_eq_true] at hp
      obtain ⟨⟨h1, h1'⟩, h2⟩ := hp
      simp only [List.all_cons, List.all_nil, Bool.and_true, Bool.and_eq_true] at hst
      cases no with
      | cons hi lx fx no =>
        cases no with
        | cons hj ly fy no =>
          cases no with
          | cons hk lz fz no =>
            cases no
            by_cases hl : (lcB C.sc x && lcB C.sc y && lcB C.sc z) = true
            · have hl' := hl
              simp only [Bool.and_eq_true] at hl'
              rw [if_pos hl'] at h2
              obtain ⟨⟨l1, l2⟩, l3⟩ := hl'
              simp only [Bool.and_eq_true, Bool.not_eq_true'] at h2
              obtain ⟨⟨⟨⟨h3, h6⟩, h7⟩, h4⟩, h5⟩ := h2
              have kx : X.env.scope.names.lookup x = some .local := by rw [R.sc]; exact lcB_ok l1
              have ky : X.env.scope.names.lookup y = some .local := by rw [R.sc]; exact lcB_ok l2
              have kz : X.env.scope.names.lookup z = some .local := by rw [R.sc]; exact lcB_ok l3
              exact ss_par3 R.calm nd hi hj hk (names_nd R hi hj h3) (names_nd R hi hk h6) (names_nd R hj hk h7) kx ky kz ha (sw3 R.kindX kx ky kz h1 h1' h3 h6 h7 hst.1 hst.2.1 hst.2.2 h4 h5)
            · refine ss_parN R.calm nd (.cons hi lx fx (.cons hj ly fy (.cons hk lz fz .nil))) ha (sw3n R.kindX ?_ h1 h1' hst.1 hst.2.1 hst.2.2) rfl
              rw [lcB_kind R, lcB_kind R, lcB_kind R]
              simpa using hl
    · cases hp
  · cases hp
theorem asg_sub {o i : Expr} {p : Pos} {env : PySem.Env} (h : notSlice i = true) : ∀ v, assign (.Subscript o i p) env v = (do
      let ov ← holding [v] (eval o env)
      let iv ← holding [v, ov] (eval i env)
      standAt p
      holding [v, ov, iv] (setItem ov iv v)
      release [v, ov, iv] []) := by
  intro v
  cases i <;> first | rfl | (simp [notSlice] at h)
/-- the parts of a comprehension -/
structure LcOk (X : Cx) (W : WX) (fs : FS) (own : List (Str × Nat)) (t : T) (it : E) (ifs : List E) (elt : E) (eelt etg eit : Expr) (eifs : List Expr) (scope : Scope) : Prop where
  hi : PI X etg eit (rdI X.g W (denI fs it))
  ok : BlkOk X.N X.env.scope scope own
  sub : ∀ i ∈ slT t, i ∈ own.map (·.2)
  hg : ∀ (s : Shared) (H : Hp) (Cc : Addr) (cl : List (Str × Addr)) (fp : List Addr), PG (X.blk s H scope (compEnvC scope cl Cc X.env) fp) etg (rdG X.g t)
  ht : ∀ (s : Shared) (H : Hp) (Cc : Addr) (cl : List (Str × Addr)) (fp : List Addr), PTs (X.blk s H scope (compEnvC scope cl Cc X.env) fp) eifs (rdB X.g W0 (denTs fs ifs))
  he : ∀ (s : Shared) (H : Hp) (Cc : Addr) (cl : List (Str × Addr)) (fp : List Addr), PE (X.blk s H scope (compEnvC scope cl Cc X.env) fp) eelt (rdE X.g W0 (denE fs elt))
  hs : ∀ x, foldedSetIterable eit X.env x = pure x
theorem lc_parts (R : Rdy X W C k fs) {n : Nat} {m : Bool} {own : List Nat} {tg : T} {it elt : E} {ifs : List E} {eelt : Expr} {gens : List Comprehension} {scope : Scope} {p : Pos} (h : chkE n C (.ListComp eelt gens scope p) (.lc m own tg it ifs elt) = true) :
    ∃ etg eit eifs, gens = [⟨etg, eit, eifs, 0⟩] ∧ LcOk X W fs (ownP C.N own) tg it ifs elt eelt etg eit eifs scope := by
  cases n with
  | zero => simp [chkE] at h
  | succ n =>
    simp only [chkE] at h
    split at h
    · rename_i eelt' etg eit eifs scope' p' heq
      cases heq
      simp only [Bool.and_eq_true] at h
      obtain ⟨⟨⟨⟨⟨⟨h1, h2⟩, h3⟩, h4⟩, h5⟩, h6⟩, h7⟩ := h
      have bo := blkOk_by h1
      have hk := bo.kind
      refine ⟨etg, eit, eifs, rfl, chkI_ok R (fun e x h => chkE_ok n R e x h) h4, by rw [R.hN, R.sc]; exact bo, fun i hi => ?_, fun s H Cc cl fp => chkT_ok (R.blk hk) n _ _ h5, fun s H Cc cl fp => ?_, fun s H Cc cl fp => (chkE_ok n (R.blk hk) _ _ h6).pe, not_set h3⟩
      · rw [ownP_map]
        have := List.all_eq_true.mp h2 i hi
        simpa using this
      · split at h7
        · split at h7
          · exact sts_nil
          · cases h7
        · split at h7
          · obtain ⟨q1, q2⟩ := Bool.and_eq_true_iff.mp h7
            exact sts_one ((chkE_ok n (R.blk hk) _ _ q2).pt q1)
          · cases h7
        · cases h7
    · cases h
theorem chkSs_ok {f : Stmt → S → Bool} (ih : ∀ st s, f st s = true → PS X st (rdS X.g W (denS fs s))) : ∀ (ss : List S) (sts : List Stmt), chkSs f sts ss = true → PSs X sts (rdS X.g W (denSs fs ss))
  | [], [], _ => ss_nil
  | [], _ :: _, h => by simp [chkSs] at h
  | s :: ss, sts, h => by
    by_cases hf : ∃ i, s = .frz i
    · obtain ⟨i, rfl⟩ := hf
      rw [chkSs] at h
      exact ss_frz (chkSs_ok ih ss sts h)
    · cases sts with
      | nil => cases s <;> first | (simp [chkSs] at h; done) | exact absurd ⟨_, rfl⟩ hf
      | cons st sts =>
        have h' : (f st s && chkSs f sts ss) = true := by
          cases s <;> first | exact h | exact absurd ⟨_, rfl⟩ hf
        obtain ⟨h1, h2⟩ := Bool.and_eq_true_iff.mp h'
        exact ss_cons (ih st s h1) (chkSs_ok ih ss sts h2)
theorem chkS_ok (R : Rdy X W C k fs) : ∀ (n : Nat) (st : Stmt) (s : S), chkS n C st s = true → PS X st (rdS X.g W (denS fs s))
  | 0, _, _, h => by simp [chkS] at h
  | n + 1, st, s, h => by
    have ih := fun e x h => chkE_ok (fs := fs) n R e x h
    have ihS : ∀ st s, chkS n C st s = true → PS X st (rdS X.g W (denS fs s)) := fun st s h => chkS_ok R n st s h
    cases s with
    | ex e =>
      simp only [chkS] at h
      split at h
      · obtain ⟨h1, h2⟩ := Bool.and_eq_true_iff.mp h
        exact ss_ex h1 (ih _ _ h2).pe
      · cases h
    | asg t e =>
      cases t with
      | n i =>
        simp only [chkS] at h
        split at h
        · rename_i x p ee pos
          simp only [Bool.and_eq_true] at h
          obtain ⟨⟨h1, h2⟩, h3⟩ := h
          obtain ⟨n0, n1, n2, n3⟩ := R.nm h1
          split at h3
          · rename_i eelt gens scope p2
            by_cases hc : swB C x p p2 scope = true
            · rw [if_pos hc] at h3
              split at h3
              · rename_i m own tg it ifs elt
                obtain ⟨etg, eit, eifs, rfl, L⟩ := lc_parts R h2
                unfold swB at hc
                rw [Bool.and_eq_true, Bool.and_eq_true] at hc
                obtain ⟨⟨c1, c2⟩, c3⟩ := hc
                have kx : X.env.scope.names.lookup x = some .local := by rw [R.sc]; exact lcB_ok c1
                have st := ps_setLc (i := i) (spos := pos) R.calm n0 n1 kx (sw_true (l := pos.line) R.kindX kx c2 (by rw [Bool.not_eq_true'] at c3; exact c3)) L.hi L.ok L.hg L.ht L.he L.hs
                refine PS.imp st fun D σ H z => ?_
                rw [ownP_map]
                refine lc_imp (m := m) (fun i hi => ?_) (set_imp z)
                have := L.sub i hi
                rw [ownP_map] at this
                exact this
              · cases h3
            · refine ss_set n0 n1 n2 n3 (sw_lcno ?_) (ih _ _ h2).pe
              rw [lcB_kind R]
              exact Bool.eq_false_iff.mpr hc
          · exact ss_set n0 n1 n2 n3 (sw_no h3) (ih _ _ h2).pe
        · cases h
      | t ts =>
        simp only [chkS] at h
        split at h
        · simp only [Bool.and_eq_true] at h
          obtain ⟨⟨h1, h3⟩, h4⟩ := h
          exact ss_asg (chkT_ok R n _ _ h1) (sw_notTup h3) (ih _ _ h4).pe
        · cases h
    | par is es =>
      simp only [chkS] at h
      split at h
      · simp only [Bool.and_eq_true] at h
        obtain ⟨⟨⟨h1, h2⟩, h3⟩, h4⟩ := h
        exact par_ok R h3 h4 h1 (args_ok ih _ _ h1 h2).1
      · cases h
    | sub o i e =>
      simp only [chkS] at h
      split at h
      · simp only [Bool.and_eq_true] at h
        obtain ⟨⟨⟨⟨h1, h2⟩, h3⟩, h4⟩, h5⟩ := h
        exact ss_sub (ih _ _ h3).pe (ih _ _ h4).pe (asg_sub h2) h1 sw_sub (ih _ _ h5).pe
      · cases h
    | aug i op e =>
      simp only [chkS] at h
      split at h
      · simp only [Bool.and_eq_true, decide_eq_true_eq, Bool.or_eq_true] at h
        obtain ⟨⟨⟨h1, h2⟩, h3⟩, h4⟩ := h
        subst h2
        obtain ⟨n0, n1, n2, n3⟩ := R.nm h1
        exact ss_aug h3 n0 n1 n2 n3 (ih _ _ h4).pe
      · cases h
    | ife c a b =>
      simp only [chkS] at h
      split at h
      · simp only [Bool.and_eq_true] at h
        obtain ⟨⟨⟨h1, h2⟩, h3⟩, h4⟩ := h
        exact ss_if ((ih _ _ h2).pt h1) (chkSs_ok ihS _ _ h3) (chkSs_ok ihS _ _ h4)
      · cases h
    | «for» t it b =>
      simp only [chkS] at h
      split at h
      · simp only [Bool.and_eq_true] at h
        obtain ⟨⟨⟨h1, h2⟩, h3⟩, h4⟩ := h
        exact ss_for R.own R.calm (chkI_ok R ih h1) (chkT_ok R n _ _ h2) (chkSs_ok ihS _ _ h4) (not_set h3)
      · cases h
    | whl c b =>
      simp only [chkS] at h
      split at h
      · simp only [Bool.and_eq_true] at h
        obtain ⟨⟨h1, h2⟩, h3⟩ := h
        exact ss_while R.own ((ih _ _ h2).pt h1) (chkSs_ok ihS _ _ h3)
      · cases h
    | ret e =>
      simp only [chkS] at h
      split at h
      · exact ss_ret (ih _ _ h).pe
      · cases h
    | retN =>
      simp only [chkS] at h
      split at h
      · exact ss_retN
      · cases h
    | brk =>
      simp only [chkS] at h
      split at h
      · exact ss_brk
      · cases h
    | cnt =>
      simp only [chkS] at h
      split at h
      · exact ss_cnt
      · cases h
    | pas =>
      simp only [chkS] at h
      split at h
      · exact ss_pass
      · cases h
    | never => exact ss_never
    | frz i => simp [chkS] at h
end
end DP

set_option Elab.async false
set_option linter.all false
set_option maxRecDepth 100000
set_option maxHeartbeats 1000000
/-! Ev23: a program's defs one behind another; the law's call. -/
namespace DP
open PySem PySem.Spec L2

/-! ### plain parameters -/
theorem zip_some : ∀ {ps : List Str} {us : List Value} {n : Str}, us.length = ps.length → n ∈ ps → ((ps.zip us).lookup n).isNone = false
  | [], _, n, _, h => by cases h
  | p :: ps, [], n, hl, h => by simp at hl
  | p :: ps, u :: us, n, hl, h => by
    simp only [List.zip_cons_cons, List.lookup_cons]
    cases e : n == p with
    | true => rfl
    | false =>
      refine zip_some (by simpa using hl) ?_
      rcases List.mem_cons.mp h with q | q
      · subst q; simp at e
      · exact q
theorem zip_back : ∀ {ps : List Str} {us : List Value}, us.length = ps.length → ps.Nodup → ∀ (pre : List (Str × Value)), (∀ q ∈ pre, q.1 ∉ ps) → ps.filterMap (fun n => ((pre ++ ps.zip us).lookup n).map (n, ·)) = ps.zip us
  | [], _, _, _, _, _ => rfl
  | p :: ps, [], hl, _, _, _ => by simp at hl
  | p :: ps, u :: us, hl, nd, pre, hp => by
    have look : ∀ (pre : List (Str × Value)), (∀ q ∈ pre, q.1 ∉ p :: ps) → (pre ++ (p, u) :: ps.zip us).lookup p = some u := by
      intro pre
      induction pre with
      | nil => intro _; simp [List.lookup_cons]
      | cons q r ih =>
        intro h
        have : (p == q.1) = false := by
          cases e : p == q.1 with
          | false => rfl
          | true => exact absurd (by rw [← beq_iff_eq.mp e]; exact List.mem_cons_self) (h q List.mem_cons_self)
        show (match p == q.1 with
          | true => some q.2
          | false => (r ++ (p, u) :: ps.zip us).lookup p) = some u
        rw [this]
        exact ih fun z hz => h z (List.mem_cons_of_mem _ hz)
    rw [List.filterMap_cons, List.zip_cons_cons, look pre hp]
    have ih := zip_back (us := us) (by simpa using hl) (List.nodup_cons.mp nd).2 (pre ++ [(p, u)]) (fun q hq => by
      rcases List.mem_append.mp hq with h | h
      · exact fun z => hp q h (List.mem_cons_of_mem _ z)
      · rw [List.mem_singleton.mp h]; exact (List.nodup_cons.mp nd).1)
    simp only [List.append_assoc, List.singleton_append] at ih
    simp only [Option.map_some]
    rw [ih]
theorem bind_plain {x qual : Str} {args : List Arg} {kd : List (Option Expr)} {body : List Stmt} {scope : Scope} {kV doc pm cdv ct : Value} {an : Option Addr} {us : List Value} {ps : List Str} (h : args.map (·.arg) = ps) (nd : ps.Nodup) (hl : us.length = ps.length) :
    bindArgs (PySem.W.fnOf x qual ⟨[], args, none, [], kd, none, []⟩ body scope .none kV doc pm an cdv ct) ⟨us, []⟩ = pure (ps.zip us) := by
  have h1 : ps.filterMap (fun n => ((ps.zip us).lookup n).map (n, ·)) = ps.zip us := zip_back hl nd [] (by simp)
  have h2 : ps.filter (fun n => ((ps.zip us).lookup n).isNone) = [] := List.filter_eq_nil_iff.mpr fun n hn => by rw [zip_some hl hn]; simp
  have h3 : ¬ (us.length > ps.length) := by omega
  have h4 : args.length = ps.length := by rw [← h]; simp
  have h5 : ¬ (args.length < us.length) := by omega
  have h6 : args.filterMap ((fun n => ((ps.zip us).lookup n).map (n, ·)) ∘ (·.arg)) = ps.zip us := by rw [← List.filterMap_map, h]; exact h1
  have h7 : ps.take args.length = ps := by rw [h4]; exact List.take_length
  unfold bindArgs
  simp [PySem.W.fnOf, seqItems?, h, h1, h2, h3, h5, h6, h7, h4, notAStandIn, Option.getD]

/-! ### a def of the evaluator -/
structure D where
  id : Nat
  name : Str
  ps : List Str
  bor : List Bool
  N : List Str
  body : List S
def fnD (fs : FS) (d : D) : Fn := ⟨d.name, d.ps, d.bor, fun as bs => runDef fs d.N.length d.body as bs⟩
def scopeB (N ps : List Str) (sc : Scope) : Bool := (match sc.kind with | .function => true | _ => false) && !sc.isCoroutine && !sc.isGenerator && decide N.Nodup && decide (N.take ps.length = ps) && ps.all (locB sc) &&
  sc.names.all fun y => (match y.2 with | .free => false | _ => true)
theorem scopeB_ok {N ps : List Str} {sc : Scope} (h : scopeB N ps sc = true) : FnScope N ps sc := by
  unfold scopeB at h
  simp only [Bool.and_eq_true, Bool.not_eq_true', decide_eq_true_eq, List.all_eq_true] at h
  obtain ⟨⟨⟨⟨⟨⟨h1, h2⟩, h3⟩, h4⟩, h5⟩, h6⟩, h7⟩ := h
  refine ⟨?_, h2, h3, h4, h5, fun x hx => locB_ok (h6 x hx), fun y hy e => ?_⟩
  · split at h1
    · assumption
    · cases h1
  · have := h7 y hy
    rw [e] at this
    cases this
def argsB (a : Arguments) (ps : List Str) : Bool := match a with
  | ⟨[], args, none, [], _, none, []⟩ => decide (args.map (·.arg) = ps) && decide ps.Nodup
  | _ => false
def ccD (gs : List (Str × IV)) (bn : List Str) (fns : List (Nat × Str)) (d : D) (sc : Scope) : CC := ⟨d.N, sc, fun _ => true, gs, bn, fns⟩
def chkD (gs : List (Str × IV)) (bn : List Str) (fns : List (Nat × Str)) (st : Stmt) (d : D) : Bool :=
  scopeB d.N d.ps (defScope st) && argsB (defArgs st) d.ps && Nat.beq d.bor.length d.ps.length && chkSs (chkS 60 (ccD gs bn fns d (defScope st))) (defBody st) d.body
abbrev FnP (K : PySem.W.Frag) (x : Str) (st : Stmt) (f : Addr) (fd : FuncData) : Prop := FunD K x x (defArgs st) (defBody st) (defScope st) [] [] f fd
theorem args_binds {K : PySem.W.Frag} {x qual : Str} {a : Arguments} {body : List Stmt} {scope : Scope} {kws : List (Str × V)} {f : Addr} {fd : FuncData} {ps : List Str} (F : FunD K x qual a body scope [] kws f fd) (h : argsB a ps = true) : Binds K fd ps [] ∧ ∀ s (us : List Value), us.length = ps.length → BindsTo s fd ⟨us, []⟩ (ps.zip us) := by
  unfold argsB at h
  split at h
  · rw [Bool.and_eq_true] at h
    have e := of_decide_eq_true h.1
    have nd := of_decide_eq_true h.2
    exact ⟨F.bindsN fun _ _ _ _ _ _ us hl => bind_plain e nd hl, fun s us hl => F.bindsA (fun _ _ _ _ _ _ us hl => bind_plain e nd hl) s us hl⟩
  · cases h
section
variable {P : Program} {w : World} {K : PySem.W.Frag} {mg : Str → Option Value} {base : Heap} {k : Nat} {fs : FS} {gs : List (Str × IV)} {bn : List Str} {fns : List (Nat × Str)}
def NmOk (fns : List (Nat × Str)) (fs : FS) : Prop := ∀ f y, fns.lookup f = some y → ∃ F, lookF fs f = some F ∧ F.name = y
theorem fn_ok {st : Stmt} {d : D} {f : Addr} {fd : FuncData} (c : FnP K d.name st f fd) (h : chkD gs bn fns st d = true) (hf : FnsOk P w K mg base k fs) (hn : NmOk fns fs) (hg : ∀ p ∈ gs, GloOk ⟨mg, K⟩ p.1 p.2) (hb : ∀ x ∈ bn, mg x = none) :
    FnG P w K mg base (L2.CX P w) (k + 1) f fd d.ps (spF ⟨mg, K⟩ (fnD fs d)) := by
  unfold chkD at h
  simp only [Bool.and_eq_true] at h
  obtain ⟨⟨⟨h1, h2⟩, h3⟩, h4⟩ := h
  have S := scopeB_ok h1
  obtain ⟨oc, od, dV, kV, doc, pm, an, cdv, ct, osl, rfl, lk, hcd, _, _⟩ := c.ex
  refine fnG_def (d := denSs fs d.body) (F := fnD fs d) rfl (fun as bs => runDef_eq) lk hcd S fun A fr s H E gd rm => ?_
  have R : Rdy (cxOf (L2.CX P w) P w K mg base d.N d.name (defScope st) f cdv A fr s H E) (fun c d _ H2 => E c d H2) (ccD gs bn fns d (defScope st)) k fs :=
    ⟨rfl, S.nd, rfl, S.kind, rfl, rfl, rm, gd, takes_of rfl rfl rfl rfl, passes_of rfl, hf, hn, hg, hb⟩
  exact chkSs_ok (fun st s q => chkS_ok R 60 st s q) _ _ h4
theorem FnsOk.up {j : Nat} (h : FnsOk P w K mg base j fs) (l : j ≤ k) : FnsOk P w K mg base k fs := fun i F q =>
  let ⟨a, fd, h1, h2, h3, h4, h5⟩ := h i F q; ⟨a, fd, h1, h2, h3, h4, h5.up l⟩
theorem FnsOk.nil : FnsOk P w K mg base k [] := fun i F q => by cases q
theorem FnsOk.cons {i : Nat} {F : Fn} {a : Addr} {fd : FuncData} (h : FnsOk P w K mg base k fs) (h1 : mg F.name = some (.ref a)) (h2 : PySem.W.keepIn K (.ref a) = true) (h3 : Binds K fd F.ps []) (h4 : F.bor.length = F.ps.length) (h5 : FnG P w K mg base (L2.CX P w) k a fd F.ps (spF ⟨mg, K⟩ F)) :
    FnsOk P w K mg base k ((i, F) :: fs) := fun j G q => by
  unfold lookF at q
  cases e : Nat.beq i j with
  | true =>
    rw [e] at q
    cases q
    exact ⟨a, fd, h1, h2, h3, h4, h5⟩
  | false =>
    rw [e] at q
    exact h j G q
theorem NmOk.cons {i : Nat} {F : Fn} (h : NmOk fns fs) : NmOk ((i, F.name) :: fns) ((i, F) :: fs) := fun f y q => by
  rw [List.lookup_cons] at q
  unfold lookF
  cases e : Nat.beq i f with
  | true =>
    have : f = i := (Nat.eq_of_beq_eq_true e).symm
    subst this
    rw [beq_self_eq_true] at q
    cases q
    exact ⟨F, rfl, rfl⟩
  | false =>
    have : (f == i) = false := by
      cases z : f == i with
      | false => rfl
      | true =>
        have z := beq_iff_eq.mp z
        subst z
        exact absurd e (by rw [Nat.beq_refl]; simp)
    rw [this] at q
    exact h f y q
theorem NmOk.nil : NmOk [] fs := fun f y q => by cases q
/-- defs, one behind another -/
def fsI : List (D × Nat) → FS → FS
  | [], fs => fs
  | (d, _) :: r, fs => fsI r ((d.id, fnD fs d) :: fs)
def nmI : List (D × Nat) → List (Nat × Str) → List (Nat × Str)
  | [], fns => fns
  | (d, _) :: r, fns => nmI r ((d.id, d.name) :: fns)
def chkP (top : Nat → Stmt) (gs : List (Str × IV)) (bn : List Str) : List (D × Nat) → List (Nat × Str) → Bool
  | [], _ => true
  | (d, t) :: r, fns => chkD gs bn fns (top t) d && chkP top gs bn r ((d.id, d.name) :: fns)
theorem seg_ok {top : Nat → Stmt} (hg : ∀ p ∈ gs, GloOk ⟨mg, K⟩ p.1 p.2) (hb : ∀ x ∈ bn, mg x = none) : ∀ {its : List (D × Nat)} {fs : FS} {fns : List (Nat × Str)} {k : Nat}, (∀ p ∈ its, ∃ a fd, mg p.1.name = some (.ref a) ∧ FnP K p.1.name (top p.2) a fd) → chkP top gs bn its fns = true → FnsOk P w K mg base k fs → NmOk fns fs →
    FnsOk P w K mg base (k + its.length) (fsI its fs) ∧ NmOk (nmI its fns) (fsI its fs)
  | [], fs, fns, k, _, _, h1, h2 => ⟨h1, h2⟩
  | (d, t) :: r, fs, fns, k, hp, hc, h1, h2 => by
    simp only [chkP, Bool.and_eq_true] at hc
    obtain ⟨a, fd, m, F⟩ := hp (d, t) List.mem_cons_self
    have hd := hc.1
    unfold chkD at hd
    simp only [Bool.and_eq_true] at hd
    have G := fn_ok F hc.1 h1 h2 hg hb
    have st := (h1.up (Nat.le_succ k)).cons (i := d.id) (F := fnD fs d) m F.kp (args_binds F hd.1.1.2).1 (Nat.eq_of_beq_eq_true hd.1.2) G
    have := seg_ok hg hb (fun p q => hp p (List.mem_cons_of_mem _ q)) hc.2 st (NmOk.cons (F := fnD fs d) h2)
    rw [List.length_cons, show k + (r.length + 1) = k + 1 + r.length by omega]
    exact this
end
/-! ### facts of the head -/
def gsFa (p : Str × IV) : He.Fa := match p.2 with
  | .int i => .int p.1 i
  | .str z => .str p.1 z
  | .glo _ => .glo p.1
  | _ => .free p.1
def gsB (p : Str × IV) : Bool := match p.2 with
  | .int _ => true
  | .str _ => true
  | .glo y => decide (y = p.1)
  | .ty n => !decide (p.1 = "__name__") && decide (bootBuiltins p.1 = some (.type n))
  | _ => false
theorem gs_ok {K : PySem.W.Frag} {h : Heap} {mg : Str → Option Value} {p : Str × IV} (X : K.In h) (G : h.Ns mainGlobals mg) (c : (gsFa p).ok K = true) (b : gsB p = true) : GloOk ⟨mg, K⟩ p.1 p.2 := by
  obtain ⟨x, v⟩ := p
  cases v with
  | int i =>
    obtain ⟨t, e⟩ := He.int_ok X G c
    exact ⟨.int i, fun _ _ => .int i, .inl ⟨_, e, ⟨t, rfl⟩⟩⟩
  | str z =>
    obtain ⟨t, e⟩ := He.str_ok X G c
    exact ⟨.str z, fun _ _ => .str z, .inl ⟨_, e, ⟨t, rfl⟩⟩⟩
  | glo y =>
    have e := He.glo_ok X G c
    have q : y = x := of_decide_eq_true b
    subst q
    exact ⟨.ref _, fun _ _ => .glo e, .inl ⟨_, e, rfl⟩⟩
  | ty n =>
    have e := He.free_ok X G c
    simp only [gsB, Bool.and_eq_true, Bool.not_eq_true', decide_eq_false_iff_not, decide_eq_true_eq] at b
    exact ⟨.ty n, fun _ _ => .ty n, .inr ⟨e, b.1, _, b.2, rfl⟩⟩
  | _ => cases b
theorem says_fact {fa : List He.Fa} {fn : List He.DefD} {K : PySem.W.Frag} (c : He.SaysD fa fn K) {f : He.Fa} (h : f ∈ fa) : f.ok K = true := by
  obtain ⟨i, hi, e⟩ := List.getElem_of_mem h
  exact c.fact i (by rw [List.getElem?_eq_getElem hi, e])
theorem says_def {fa : List He.Fa} {fn : List He.DefD} {K : PySem.W.Frag} (c : He.SaysD fa fn K) {d : He.DefD} (h : d ∈ fn) : ∃ fd, FunD K d.name d.qual d.params d.body d.scope (d.dvs K) (d.kws K) (He.fAd K d.at_) fd := by
  obtain ⟨i, hi, e⟩ := List.getElem_of_mem h
  exact c.def_ i (by rw [List.getElem?_eq_getElem hi, e])
def dd (x : Str) (st : Stmt) : He.DefD := ⟨(x, none), x, x, defArgs st, defBody st, defScope st, [], []⟩
theorem says_fn {fa : List He.Fa} {fn : List He.DefD} {K : PySem.W.Frag} {h : Heap} {mg : Str → Option Value} (c : He.SaysD fa fn K) (X : K.In h) (G : h.Ns mainGlobals mg) {x : Str} {st : Stmt} (h1 : He.Fa.glo x ∈ fa) (h2 : dd x st ∈ fn) : ∃ a fd, mg x = some (.ref a) ∧ FnP K x st a fd := by
  obtain ⟨fd, F⟩ := says_def c h2
  exact ⟨_, fd, He.glo_ok X G (says_fact c h1), F⟩
end DP

set_option Elab.async false
set_option linter.all false
set_option maxRecDepth 100000
set_option maxHeartbeats 1000000
/-! Ev24: the law is called with a script. -/
namespace DP
open PySem PySem.Spec PyProof.Rows L2

/-- the abstract heap of the call: the script, if it is none of the module's own objects -/
def scrH (K : PySem.W.Frag) (a : Addr) (o : Obj) (ns : List Int) : Hp := fun b => if b = a ∧ K.lookup a = none then some (.frz o (.lst (ns.map V.int))) else none
theorem scrH_at {K : PySem.W.Frag} {a b : Addr} {o : Obj} {ns : List Int} {u : HO} (h : scrH K a o ns b = some u) : b = a ∧ K.lookup a = none ∧ u = .frz o (.lst (ns.map V.int)) := by
  unfold scrH at h
  split at h
  · rename_i q
    cases h
    exact ⟨q.1, q.2, rfl⟩
  · cases h
section
variable {P : Program} {w : World} {K : PySem.W.Frag} {mg mb : Str → Option Value} {k : Nat} {fa a : Addr} {fd : FuncData} {x : Str} {F : Fn} {s1 : Shared} {vs : List Value} {ns : List Int}
theorem law_sp (hx : F.ps = [x]) (hr : F.run [.iv (.scr ns)] [] = .ok (.iv (.bl true)) []) {o : Obj} (hk : K.lookup a ≠ none → KScr K a ns) : spF ⟨mg, K⟩ F [.ref a] (scrH K a o ns) (fun v _ => v = .bl true) fun _ _ _ => False := by
  refine ⟨by rw [hx]; rfl, ⟨[], fun _ => False⟩, [.iv (.scr ns)], [], ⟨rfl, ?_, ?_, ?_, ?_, ?_, fun b z => z.elim⟩, .cons ?_ .nil, ?_⟩
  all_goals first
    | (intros; rename_i h _ _ ; simp at h; done)
    | (intros; rename_i h _; simp at h; done)
    | (intros; rename_i h; simp at h; done)
    | skip
  all_goals first
    | (intro k p h; simp at h; done)
    | (intro j k p q n h; simp at h; done)
    | skip
  · show Rep _ _ _ _ _
    by_cases h : K.lookup a = none
    · refine .scr (o := o) (by unfold scrH; rw [if_pos ⟨rfl, h⟩]) ?_
      rintro (⟨_, _, _, z, _⟩ | z)
      · simp at z
      · exact z
    · exact .scrK (hk h)
  · rw [hr]
    intro ρ' osf H' v' e s' ht r
    have r : Rep _ _ _ (.bl true) v' := r
    cases r
    rfl
theorem lawG (KX : K.In s1.heap) (hns : s1.heap.Ns mainGlobals mg) (hb : s1.heap.Ns builtinsNs mb) (hbb : ∀ x : Str, x ≠ "__name__" → mb x = bootBuiltins x) (hlim : s1.heap.NoLimit) (hg : s1.gens = #[])
    (ha : s1.heap.get? a = some { cls := .type "list", data := .seq vs.toArray }) (hi : IntsAre vs ns) (hl : ns.length ≤ sizeLine) (hr : Room k callerA)
    (G : ∀ base : Heap, K.In base → base.Ns mainGlobals mg → FnG P w K mg base (L2.CX P w) k fa fd [x] (spF ⟨mg, K⟩ F)) (hbind : BindsTo s1 fd ⟨[.ref a], []⟩ [(x, .ref a)]) (hx : F.ps = [x]) (run : F.run [.iv (.scr ns)] [] = .ok (.iv (.bl true)) []) :
    codeAny (model P w) callerA (.call (.ref fa) ⟨[.ref a], []⟩) (fun r s' => r = .ok (.ret (.bool true)) ∧ OldK s1.heap s'.heap ∧ s'.os = s1.os ∧ AllBare s'.gens) s1 := by
  generalize ho : ({ cls := .type "list", data := .seq vs.toArray } : Obj) = o at ha
  have rv := vals_ints hi
  have hsz : vs.toArray.size ≤ sizeLine := by rw [List.size_toArray, hi.length]; exact hl
  -- what H tracks
  have hok : HOk P w (scrH K a o ns) s1.heap := fun b u z => by
    obtain ⟨rfl, _, rfl⟩ := scrH_at z
    subst ho
    exact ⟨ha, by rw [List.length_map]; exact hl, vs, _, rv, ha⟩
  have hid : ∀ {b : Addr} {u : Obj}, s1.heap.get? b = some u → (b = a → K.lookup a ≠ none) → (hidT s1.heap (scrH K a o ns)).get? b = some u := fun {b u} e n => hidT_get e (by
    unfold scrH
    rw [if_neg]
    rintro ⟨q1, q2⟩
    exact n q1 q2)
  have nsK : ∀ {b : Addr} {m : Str → Option Value}, s1.heap.Ns b m → (hidT s1.heap (scrH K a o ns)).Ns b m := fun {b m} ⟨u, es, ep, e, d, r⟩ => ⟨u, es, ep, hid e (fun q => by
    subst q
    subst ho
    rw [ha] at e
    cases e
    cases d), d, r⟩
  have kb : K.In (hidT s1.heap (scrH K a o ns)) := fun b u e => hid (KX b u e) (fun q => by
    subst q
    rw [e]
    simp)
  have modu : Mod K mg (hidT s1.heap (scrH K a o ns)) := by
    obtain ⟨mc, h1, h2⟩ := hlim
    exact ⟨kb, nsK hns, ⟨mb, nsK hb, hbb⟩, ⟨mc, nsK h1, h2⟩⟩
  have e0 : Env0 P w K mg (hidT s1.heap (scrH K a o ns)) callerA [] s1 (scrH K a o ns) :=
    ⟨rfl, modu, fun b u e => of_hidT e, Nat.le_of_eq (hidT_size _ _), trivial, (fun b z => absurd (show b ∈ ([] : List Addr) from z) (by simp)), hok, .of_eq hg⟩
  have sp := law_sp (mg := mg) (a := a) (o := o) hx run fun z => by
    cases q : K.lookup a with
    | none => exact absurd q z
    | some u =>
      have e := KX a u q
      rw [ha] at e
      cases e
      subst ho
      exact ⟨_, vs.toArray, _, q, rfl, rfl, rfl, hsz, by simpa using rv⟩
  refine codeAny_mono ((G _ kb (nsK hns)).go callerA [] s1 (scrH K a o ns) ⟨[.ref a], []⟩ [.ref a] [.ref a] _ _ rfl hr e0 hbind (.cons rfl .nil) sp) fun r s' h => ?_
  rcases r with er | fl
  · obtain ⟨_, _, _, _, _, _, _, _, _, _, _, _, z⟩ := h
    exact z.elim
  · cases fl
    case ret u =>
      obtain ⟨v, H', os, bare, un, ok', r', q⟩ := h
      have q : v = .bl true := q
      subst q
      have r' : u = Value.bool true := r'
      subst r'
      refine ⟨rfl, OldK.of_keep fun b u e => ?_, os, bare⟩
      cases q : scrH K a o ns b with
      | none => exact un.keep b u e q (fun z => absurd (show b ∈ ([] : List Addr) from z) (by simp)) (by simp)
      | some t =>
        obtain ⟨_, _, rfl⟩ := scrH_at q
        have e1 := (hok b _ q).1
        have e2 := (ok' b _ (un.frzs b o _ q)).1
        rw [e] at e1
        cases e1
        exact e2
    all_goals exact False.elim h
end
/-- the law's row by its run -/
theorem walkG {l : PySem.W.OpenLaw} {n k : Nat} {q : Program} {loose : List Str} {XP : (Str → Option Value) → Heap → Prop} {YP : World → Heap → Prop} {d : DefRec} {x : Str} {F : Fn}
    (hn : l.most = some n) (hn2 : n ≤ sizeLine) (hdf : d.params.defaults = []) (hr : Room k callerA) (hx : F.ps = [x]) (run : ∀ ns : List Int, ns.length ≤ n → F.run [.iv (.scr ns)] [] = .ok (.iv (.bl true)) [])
    (hF : ∀ (w : World) (mg : Str → Option Value) (fa : Addr) (h : Heap), YP w h → h.Ns mainGlobals mg → mg d.name = some (.ref fa) →
      ∃ (K : PySem.W.Frag) (fd : FuncData), K.In h ∧ (∀ (s : Shared) (u : Value), BindsTo s fd ⟨[u], []⟩ [(x, u)]) ∧
        ∀ base : Heap, K.In base → base.Ns mainGlobals mg → FnG l.prog w K mg base (L2.CX l.prog w) k fa fd [x] (spF ⟨mg, K⟩ F)) :
    PySem.W.WalkO q loose XP YP l.row.toRowW d [] (fun f vs => PySem.call f vs) :=
  Att.attach_call hn hdf fun w s0 s1 mg mb fa o pm cd doc a vs ns G Y ho hd hcd hmg hobj hints hlen hg => by
    obtain ⟨K, fd, KX, hb, hG⟩ := hF w mg fa _ Y G.T.g hmg
    exact lawG KX G.T.g G.T.b G.T.builtins G.T.nolimit hg hobj hints (Nat.le_trans hlen hn2) hr hG (hb s1 (.ref a)) hx (run ns hlen)
end DP

set_option Elab.async false
set_option linter.all false
set_option maxRecDepth 100000
set_option maxHeartbeats 1000000
/-! Ev25: the law's draws, by hand. -/
namespace DP
open PySem PySem.Spec PyProof.Rows L2

def drawN : List Str := ["m", "limit", "n", "lot", "here", "cell"]
def drawFn : Fn := ⟨"_law_draw", ["m", "limit"], [true, false], fun as bs => match as, bs with
  | [.ref 0, .iv (.int limit)], [.drw cells great spot] => if drawOk cells spot limit then .ok (.iv (.int (drawVal cells great spot limit))) [.drw cells (drawGreat great spot limit) (spot + 1)] else .bad
  | _, _ => .bad⟩
abbrev rMod : R2 := rI (fun _ j => 0 < j) fun i j => V.int (i % j)
abbrev rIntOf : List V → Hp → VK → Prop := fun xs H Q => (∃ i, xs = [V.int i] ∧ Q (V.int i) H) ∨ ∃ k, xs = [V.bl k] ∧ Q (V.int (if k = true then 1 else 0)) H
abbrev rLenOf (K : PySem.W.Frag) : List V → Hp → VK → Prop := fun xs H Q => ∃ p ys, xs = [V.ref p] ∧ (SqL K H p ys ∨ SqT K H p ys) ∧ Q (V.int (ys.length : Nat)) H
abbrev tKey (x : Str) : TE := tDGet (tVar 0) (tC (V.str x))
def tDrawIf (K : PySem.W.Frag) : TS :=
  tSeq (tAsg (tKey "great") (gName 3))
    (tSeq (tAsg (tOp rMod (tCB rIntOf (tCons (tVar 2) tNil)) (tCB (rLenOf K) (tCons (tVar 3) tNil))) (gName 4))
      (tSeq (tAsg (tOp (rIxL K) (tVar 3) (tVar 4)) (gName 5))
        (tIfS (tTest (tOp (rI0 fun i j => V.bl (decide (j < i))) (tVar 5) (tC (V.int 0))))
          (tSeq (tAsg (tOp (rI CDiv fun i j => V.int (i / j)) (tVar 5) (tVar 1)) (gSub (tVar 3) (tVar 4) rSetL))
            (tRet (tOp rMod (tCB rIntOf (tCons (tVar 5) tNil)) (tVar 1))))
          tNext)))
def tDrawMix (K : PySem.W.Frag) (spM : Sp) (W : WX) : TE := fun σ H Q =>
  tCons (fun σ H Q =>
      tCons (tOp (rI0 fun i j => V.int (i + j)) (tOp (rIxL K) (tVar 3) (tOp rMod (tCB rIntOf (tCons (tVar 2) tNil)) (tC (V.int 64))))
          (tOp (rI CMul fun i j => V.int (i * j)) (tC (V.int 31)) (tOp (rI CDiv fun i j => V.int (i / j)) (tVar 2) (tC (V.int 64)))))
        (tCons (tVar 2) tNil) σ H fun vs H1 => spM vs H1 Q (WE W σ))
    (tCons (tOp (rI0 fun i j => V.int (i + j)) (tVar 2) (tC (V.int 7))) tNil) σ H fun vs H1 => spM vs H1 Q (WE W σ)
def tDraw (K : PySem.W.Frag) (spM : Sp) (W : WX) : TS :=
  tSeq (tAsg (tKey "spot") (gName 2))
    (tSeq (sDPut (tVar 0) (tC (V.str "spot")) (tOp (rI0 fun i j => V.int (i + j)) (tVar 2) (tC (V.int 1))))
      (tSeq (tIfS (tTest (tOp (rNeD K) (tKey "great") (tLst tNil))) (tDrawIf K) tNext)
        (tSeq (tAsg (tKey "cells") (gName 3)) (tRet (tOp rMod (tCB rIntOf (tCons (tDrawMix K spM W) tNil)) (tVar 1))))))

/-! ### lists of ints as data -/
theorem toDs_ints : ∀ ns : List Int, toDs (ns.map IV.int) = some (ns.map PyData.int)
  | [] => rfl
  | n :: ns => by simp [toDs, toD, toDs_ints ns]
theorem lay_ints : ∀ ns : List Int, PyData.canLayAll0 (ns.map PyData.int) = true
  | [] => rfl
  | n :: ns => by simp [PyData.canLayAll0, PyData.canLay0, lay_ints ns]
theorem dep_ints : ∀ ns : List Int, PyData.depthAll (ns.map PyData.int) = 0
  | [] => rfl
  | n :: ns => by simp [PyData.depthAll, PyData.depth, dep_ints ns]
theorem shaped_ints (ns : List Int) : SeqAt.shaped (.list (ns.map PyData.int)) = true := by
  simp [SeqAt.shaped, PyData.canLay0, PyData.depth, lay_ints, dep_ints]
theorem reps_ints {mg : G} {L : Addr → Prop} {H : Hp} : ∀ ns : List Int, Reps mg L H (ns.map IV.int) (ns.map V.int)
  | [] => .nil
  | n :: ns => .cons (.int n) (reps_ints ns)
theorem dp_ints {mg : G} {K : PySem.W.Frag} {H : Hp} {a : Addr} {ns : List Int} (h : H a = some (.lst (ns.map V.int))) : Dp K H (.ref a) (.list (ns.map PyData.int)) :=
  .lst (SqL.of h) (reps_dp (mg := mg) (L := fun _ => False) (ns.map IV.int) (ns.map PyData.int) _ (reps_ints ns) (toDs_ints ns))
theorem ne_nil_ints (ns : List Int) : (!PyData.eqv (.list (ns.map PyData.int)) (.list [])) = !ns.isEmpty := by
  cases ns <;> rfl
theorem atI_pos {α : Type} {xs : List α} {i : Int} {v : α} (h : 0 ≤ i) (e : xs[i.toNat]? = some v) : atI xs i = some v := by
  have l := (List.getElem?_eq_some_iff.mp e).1
  have q : i = (i.toNat : Nat) := by omega
  rw [q]
  exact atI_nat e
theorem ixN_pos {n : Nat} {i : Int} (h : 0 ≤ i) (l : i.toNat < n) : ixN n i = some i.toNat := by
  unfold ixN
  rw [if_pos h, if_pos (by omega)]

/-- what is behind a draw -/
structure Drawn (H : Hp) (a c g : Addr) (cells great' : List Int) (spot' : Int) (H' : Hp) : Prop where
  dict : H' a = some (.dK [(kCells, .ref c), (kGreat, .ref g), (kSpot, .int spot')])
  cel : H' c = some (.lst (cells.map V.int))
  gre : H' g = some (.lst (great'.map V.int))
  rest : ∀ b o, b ≠ a → b ≠ c → b ≠ g → H b = some o → H' b = some o
theorem Drawn.more {H : Hp} {a c g : Addr} {cells great : List Int} {spot : Int} {H' H'' : Hp} (d : Drawn H a c g cells great spot H') (h : ∀ b o, H' b = some o → H'' b = some o) : Drawn H a c g cells great spot H'' :=
  ⟨h _ _ d.dict, h _ _ d.cel, h _ _ d.gre, fun b o n1 n2 n3 e => h _ _ (d.rest b o n1 n2 n3 e)⟩
theorem drawOk_ok {cells : List Int} {spot limit : Int} (h : drawOk cells spot limit = true) : cells.length = 64 ∧ 0 ≤ spot ∧ spot < 1152921504606846976 ∧ 0 < limit ∧ limit < 1073741824 := by
  simp [drawOk] at h
  omega
theorem draw_reads {mg : G} {K : PySem.W.Frag} {spM : Sp} {W : WX} {D : Ends} {H : Hp} {a c g : Addr} {cells great : List Int} {spot limit : Int}
    (hM : ∀ (u n : Int) (H : Hp) (Q : VK) (E : XK), 0 ≤ n → n < 2305843009213693952 → (∀ H', (∀ b o, H b = some o → H' b = some o) → Q (.int (mixed u n)) H') → spM [.int u, .int n] H Q E)
    (hd : Drawn H a c g cells great spot H) (nac : a ≠ c) (nag : a ≠ g) (ncg : c ≠ g) (hok : drawOk cells spot limit = true)
    (k : ∀ H', Drawn H a c g cells (drawGreat great spot limit) (spot + 1) H' → D.rt (.int (drawVal cells great spot limit)) H') :
    tDraw K spM W D [some (.ref a), some (.int limit), none, none, none, none] H := by
  obtain ⟨hl, s0, s1, l0, l1⟩ := drawOk_ok hok
  refine ⟨_, rfl, a, _, rfl, DGet.k (k := kSpot) hd.dict, ?_⟩
  refine ⟨_, rfl, _, _, rfl, rfl, _, rfl, a, _, rfl, DPut.k (k := kSpot) hd.dict (by show 3 < sizeLine; decide), ?_⟩
  have hp : putK [(kCells, V.ref c), (kGreat, V.ref g), (kSpot, V.int spot)] kSpot (V.int (spot + 1)) = [(kCells, V.ref c), (kGreat, V.ref g), (kSpot, V.int (spot + 1))] := rfl
  rw [hp]
  have d1 : Drawn H a c g cells great (spot + 1) (upd H a (.dK [(kCells, V.ref c), (kGreat, V.ref g), (kSpot, V.int (spot + 1))])) :=
    ⟨upd_same, by rw [upd_ne (Ne.symm nac)]; exact hd.cel, by rw [upd_ne (Ne.symm nag)]; exact hd.gre, fun b o n1 _ _ e => by rw [upd_ne n1]; exact e⟩
  generalize upd H a (.dK [(kCells, V.ref c), (kGreat, V.ref g), (kSpot, V.int (spot + 1))]) = H1 at d1
  refine ⟨_, rfl, a, _, rfl, DGet.k (k := kGreat) d1.dict, ⟨Nat.zero_le _, fun e he => ?_⟩⟩
  have d2 : Drawn H a c g cells great (spot + 1) (upd H1 e (.lst [])) := d1.more fun b o z => by rw [upd_ne (ne_of_none z he)]; exact z
  have he' : upd H1 e (.lst []) e = some (.lst ([].map V.int)) := upd_same
  generalize upd H1 e (.lst []) = H2 at d2 he'
  refine ⟨_, _, dp_ints (mg := mg) d2.gre, dp_ints (mg := mg) he', shaped_ints _, shaped_ints _, _, rfl, ?_⟩
  have last : ∀ σ' : L2.St, σ'[0]? = some (some (V.ref a)) → σ'[1]? = some (some (V.int limit)) → σ'[2]? = some (some (V.int spot)) → 3 < σ'.length →
      drawVal cells great spot limit = mixed (mixed (cells.getD (spot % 64).toNat 0 + 31 * (spot / 64)) spot) (spot + 7) % limit → drawGreat great spot limit = great →
      (tSeq (tAsg (tKey "cells") (gName 3)) (tRet (tOp rMod (tCB rIntOf (tCons (tDrawMix K spM W) tNil)) (tVar 1)))) D σ' H2 := by
    intro σ' e0 e1 e2 e3 ev eg
    refine ⟨_, e0, a, _, rfl, DGet.k (k := kCells) d2.dict, ?_⟩
    have e2' : (σ'.set 3 (some (V.ref c)))[2]? = some (some (V.int spot)) := by rw [List.getElem?_set_ne (by decide)]; exact e2
    have e1' : (σ'.set 3 (some (V.ref c)))[1]? = some (some (V.int limit)) := by rw [List.getElem?_set_ne (by decide)]; exact e1
    have e3' : (σ'.set 3 (some (V.ref c)))[3]? = some (some (V.ref c)) := List.getElem?_set_self e3
    have hs : (spot % 64).toNat < cells.length := by rw [hl]; omega
    refine ⟨_, e3', _, e2', .inl ⟨_, rfl, _, _, rfl, rfl, (show (0 : Int) < 64 by decide), ?_⟩⟩
    refine ⟨c, _, _, V.int (cells.getD (spot % 64).toNat 0), rfl, rfl, SqL.of d2.cel, atI_pos (by omega) (by rw [List.getElem?_map, List.getElem?_eq_getElem hs]; simp [List.getD, List.getElem?_eq_getElem hs]), ?_⟩
    refine ⟨_, e2', _, _, rfl, rfl, (show (0 : Int) < 64 ∧ (64 : Int) < 1073741824 by decide), _, _, rfl, rfl, .inl (show -(2 ^ 64) < (31 : Int) ∧ (31 : Int) < 2 ^ 64 by decide), _, _, rfl, rfl, ?_⟩
    refine ⟨_, e2', hM _ _ _ _ _ s0 (by omega) fun H3 h3 => ?_⟩
    refine ⟨_, e2', _, _, rfl, rfl, hM _ _ _ _ _ (by omega) (by omega) fun H4 h4 => ?_⟩
    refine .inl ⟨_, rfl, _, e1', _, _, rfl, rfl, l0, ?_⟩
    show D.rt (V.int (_ % limit)) H4
    rw [← ev]
    exact k H4 (by rw [eg]; exact (d2.more h3).more h4)
  show if (!PyData.eqv (.list (great.map PyData.int)) (.list [])) = true then _ else _
  rw [ne_nil_ints]
  cases hgr : great with
  | nil =>
    rw [if_neg (by simp)]
    exact last _ rfl rfl rfl (by simp) (by rw [hgr]; rfl) (by rw [hgr]; rfl)
  | cons x r =>
    rw [if_pos (show (!(x :: r).isEmpty) = true from rfl)]
    have hpos : 0 < great.length := by rw [hgr]; simp
    have hix : (spot % (great.length : Int)).toNat < great.length := by
      have := Int.emod_nonneg spot (show (great.length : Int) ≠ 0 by omega)
      have := Int.emod_lt_of_pos spot (show (0 : Int) < great.length by omega)
      omega
    have h0 : 0 ≤ spot % (great.length : Int) := Int.emod_nonneg spot (by omega)
    have hge := List.getElem?_eq_getElem hix
    have lenm : (great.map V.int).length = great.length := by simp
    refine ⟨_, rfl, a, _, rfl, DGet.k (k := kGreat) d2.dict, ?_⟩
    refine ⟨_, rfl, .inl ⟨_, rfl, _, rfl, g, _, rfl, .inl (SqL.of d2.gre), _, _, rfl, rfl, by rw [lenm]; omega, ?_⟩⟩
    rw [lenm]
    refine ⟨_, rfl, _, rfl, g, _, _, V.int (great[(spot % (great.length : Int)).toNat]), rfl, rfl, SqL.of d2.gre, atI_pos h0 (by rw [List.getElem?_map, hge]; rfl), ?_⟩
    refine ⟨_, rfl, _, _, rfl, rfl, _, rfl, ?_⟩
    by_cases hc : 0 < great[(spot % (great.length : Int)).toNat]
    · have hz : decide ((0 : Int) < great[(spot % (great.length : Int)).toNat]) = true := decide_eq_true hc
      show if decide ((0 : Int) < great[(spot % (great.length : Int)).toNat]) = true then _ else _
      rw [hz, if_pos rfl]
      refine ⟨_, rfl, _, rfl, _, _, rfl, rfl, ⟨l0, l1⟩, ?_⟩
      refine ⟨_, rfl, _, rfl, g, _, _, _, rfl, rfl, d2.gre, ixN_pos h0 (by rw [lenm]; exact hix), ?_⟩
      refine ⟨_, rfl, .inl ⟨_, rfl, _, rfl, _, _, rfl, rfl, l0, ?_⟩⟩
      have ev : drawVal cells great spot limit = great[(spot % (great.length : Int)).toNat] % limit := by unfold drawVal; rw [hge]; simp [hc]
      have eg : drawGreat great spot limit = great.set (spot % (great.length : Int)).toNat (great[(spot % (great.length : Int)).toNat] / limit) := by unfold drawGreat; rw [hge]; simp [hc]
      show D.rt (V.int (_ % limit)) _
      rw [← ev]
      refine k _ ?_
      rw [eg]
      refine ⟨by rw [upd_ne nag]; exact d2.dict, by rw [upd_ne ncg]; exact d2.cel, by rw [upd_same, List.map_set], fun b o n1 n2 n3 e => by rw [upd_ne n3]; exact d2.rest b o n1 n2 n3 e⟩
    · have hz : decide ((0 : Int) < great[(spot % (great.length : Int)).toNat]) = false := decide_eq_false hc
      show if decide ((0 : Int) < great[(spot % (great.length : Int)).toNat]) = true then _ else _
      rw [hz, if_neg (by simp)]
      refine last _ rfl rfl rfl (by simp) (by unfold drawVal; rw [hge]; simp [hc]) (by unfold drawGreat; rw [hge]; simp [hc])

/-! ### the def -/
theorem StOk.write2 {mg : G} {ρ : Rho} {os : OS} {H H' : Hp} (s : StOk mg ρ H os) {k : Nat} {p : Addr × List Addr} {o o' : OB} (hp : ρ.l[k]? = some p) (ho : os[k]? = some o) (n : o ≠ .dead) (n' : o' ≠ .dead) (hH : ∀ b u, b ∉ p.1 :: p.2 → H b = some u → H' b = some u)
    (hT : ∀ b ∈ p.1 :: p.2, H' b ≠ none) (hn : ObR mg (Live ρ os) H' p o') : StOk mg ρ H' (os.set k o') ∧ Ext ρ os H ρ (os.set k o') H' := by
  have e : Ext ρ os H ρ (os.set k o') H' := by
    refine ⟨⟨[], by simp⟩, fun _ h => h, fun _ h => .inl (.inr h), fun b w e l => ?_, fun b l => .inl ((own_set ho n n').mp l)⟩
    exact hH b w (fun z => l ⟨k, p, o, hp, ho, n, by simpa using z⟩) e
  have hk : k < os.length := (List.getElem?_eq_some_iff.mp ho).1
  have hne : ∀ b, H b ≠ none → H' b ≠ none := fun b hb => by
    by_cases z : b ∈ p.1 :: p.2
    · exact hT b z
    · cases q : H b with
      | none => exact absurd q hb
      | some u => rw [hH b u z q]; simp
  refine ⟨⟨by simp [s.len], s.nd, s.dis, fun j q hq b hb => hne b (s.there j q hq b hb), fun j q u hq hu => ?_, s.out, fun b hb => hne b (s.fth b hb)⟩, e⟩
  by_cases hj : k = j
  · subst hj
    rw [hp] at hq; cases hq
    rw [List.getElem?_set_self hk] at hu; cases hu
    rw [live_set_eq ho n n']
    exact hn
  · rw [List.getElem?_set_ne hj] at hu
    refine (s.obj j q u hq hu).kp e.kp fun b hb => ?_
    have nb := s.dis j k q p (Ne.symm hj) hq hp b hb
    cases q' : H b with
    | none => exact absurd q' (s.there j q hq b hb)
    | some w => exact hH b w nb q'
/-- a def that gives an int of two ints, and touches nothing -/
def IntFn2 (F : Fn) (ok : Int → Int → Prop) (f : Int → Int → Int) : Prop := F.ps.length = 2 ∧ ∀ a b, ok a b → F.run [.iv (.int a), .iv (.int b)] [] = .ok (.iv (.int (f a b))) []
theorem stOk_nil {mg : G} {H : Hp} : StOk mg ⟨[], fun _ => False⟩ H [] := by
  refine ⟨rfl, fun k p h => ?_, fun j k p q _ h => ?_, fun k p h => ?_, fun k p o h => ?_, fun k p h => ?_, fun b z => z.elim⟩ <;> simp at h
theorem IntFn2.sp {mg : G} {F : Fn} {ok : Int → Int → Prop} {f : Int → Int → Int} (h : IntFn2 F ok f) {a b : Int} (hab : ok a b) {H : Hp} {Q : VK} {E : XK} (k : ∀ H', (∀ b o, H b = some o → H' b = some o) → Q (.int (f a b)) H') : spF mg F [.int a, .int b] H Q E := by
  refine ⟨h.1.symm, ⟨[], fun _ => False⟩, [.iv (.int a), .iv (.int b)], [], stOk_nil, .cons (.int a) (.cons (.int b) .nil), ?_⟩
  rw [h.2 a b hab]
  intro ρ' osf H' v' e s' ht r
  have r : Rep _ _ _ (.int _) v' := r
  cases r
  refine k H' fun b o z => e.hold b o z ?_
  rintro ⟨_, _, _, q, _⟩
  simp at q
section
variable {P : Program} {w : World} {K : PySem.W.Frag} {mg : Str → Option Value} {base : Heap} {k : Nat}
theorem draw_sp {Fm : Fn} (hm : IntFn2 Fm (fun _ n => 0 ≤ n ∧ n < 2305843009213693952) mixed) {vs : List V} {H : Hp} {Q : VK} {E : XK} (q : spF ⟨mg, K⟩ drawFn vs H Q E) :
    tDraw K (spF ⟨mg, K⟩ Fm) (fun c d _ H2 => E c d H2) { nx := fun _ H2 => Q .non H2, rt := Q } (start drawN vs) H := by
  obtain ⟨hl, ρ, as, bs, st, ra, g⟩ := q
  simp only [drawFn] at g
  split at g
  · rename_i limit cells great spot
    split at g
    · rename_i hok
      cases ra with
      | cons r0 ra =>
        cases ra with
        | cons r1 ra =>
          cases ra
          obtain ⟨p, hp, rfl⟩ := r0
          have r1 : Rep _ _ _ (.int limit) _ := r1
          cases r1
          obtain ⟨c, gg, e1, e2, e3, e4⟩ := st.obj 0 p _ hp rfl
          have nd := st.nd 0 p hp
          rw [e1] at nd
          simp only [List.nodup_cons, List.mem_cons, List.not_mem_nil, or_false, not_or] at nd
          obtain ⟨⟨n1, n2⟩, n3, _⟩ := nd
          refine draw_reads (mg := ⟨mg, K⟩) (fun u n H Q E h0 h1 k => hm.sp ⟨h0, h1⟩ k) ⟨e2, e3, e4, fun _ _ _ _ _ z => z⟩ n1 n2 n3 hok fun H' d => ?_
          obtain ⟨s', x⟩ := st.write2 (H' := H') (o' := .drw cells (drawGreat great spot limit) (spot + 1)) hp rfl (by simp) (by simp) (fun b u nb e => d.rest b u (fun z => nb (by simp [z])) (fun z => nb (by simp [z, e1])) (fun z => nb (by simp [z, e1])) e)
            (fun b hb => by
              rw [e1] at hb
              simp only [List.mem_cons, List.not_mem_nil, or_false] at hb
              rcases hb with rfl | rfl | rfl
              · rw [d.dict]; simp
              · rw [d.cel]; simp
              · rw [d.gre]; simp) ⟨c, gg, e1, d.dict, d.cel, d.gre⟩
          exact g ρ _ H' _ x s' rfl (.int _)
    · exact False.elim g
  · exact False.elim g
/-- what a def's body asks of its place -/
structure At (X : Cx) (W : WX) (N : List Str) (sc : Scope) (k : Nat) : Prop where
  hN : X.N = N
  nd : X.N.Nodup
  hs : X.env.scope = sc
  fn : ∀ x, X.fn x = true
  calm : X.calm = true
  gd : X.A.guards = some []
  rm : Room k X.A
  tk : Takes X W
  own : PassesOwn (model X.prog X.w) X.A X.env X.xe
structure FnAt (X : Cx) (k : Nat) (F : Fn) (f : Addr) (fd : FuncData) : Prop where
  go : FnG X.prog X.w X.K X.mg X.base (L2.CX X.prog X.w) k f fd F.ps (spF X.g F)
  hm : X.mg F.name = some (.ref f)
  kp : PySem.W.keepIn X.K (.ref f) = true
  bd : Binds X.K fd F.ps []
theorem FnsOk.at {X : Cx} {fs : FS} {i : Nat} {F : Fn} (h : FnsOk X.prog X.w X.K X.mg X.base k fs) (e : lookF fs i = some F) : ∃ f fd, FnAt X k F f fd :=
  let ⟨a, fd, h1, h2, h3, _, h5⟩ := h i F e; ⟨a, fd, ⟨h5, h1, h2, h3⟩⟩
/-- a def whose body is read by hand -/
theorem hand_ok {st : Stmt} {N ps : List Str} {F : Fn} {t : XK → TS} {x : Str} {f : Addr} {fd : FuncData} (c : FnP K x st f fd) (S : FnScope N ps (defScope st)) (hps : F.ps = ps)
    (hsp : ∀ vs H Q E, spF ⟨mg, K⟩ F vs H Q E → t E { nx := fun _ H2 => Q .non H2, rt := Q } (start N vs) H)
    (der : ∀ (X : Cx) (E : XK), X.prog = P → X.w = w → X.K = K → X.mg = mg → X.base = base → At X (fun c d _ H2 => E c d H2) N (defScope st) k → PSs X (defBody st) (t E)) :
    FnG P w K mg base (L2.CX P w) (k + 1) f fd F.ps (spF ⟨mg, K⟩ F) := by
  obtain ⟨oc, od, dV, kV, doc, pm, an, cdv, ct, osl, rfl, lk, hcd, _, _⟩ := c.ex
  rw [hps]
  refine FnG.body lk hcd S (fun a b c d q => by rw [← hps]; exact q.1) fun A fr s H vs Q E gd rm q => ?_
  exact ⟨t E, der _ E rfl rfl rfl rfl rfl ⟨rfl, S.nd, rfl, fun _ => rfl, rfl, gd, rm, takes_of rfl rfl rfl rfl, passes_of rfl⟩, hsp vs H Q E q⟩
end
end DP

set_option Elab.async false
set_option linter.all false
set_option maxRecDepth 100000
set_option maxHeartbeats 1000000
/-! Sy0: what the evaluator's parts come to on plain values. -/
namespace DP
open PySem PySem.Spec L2

theorem sh_int (i : Int) : SeqAt.shaped (.int i) = true := rfl
theorem ord_int (a b : Int) : ordIV (.int a) (.int b) = some (.int a, .int b) := rfl
theorem eq_int (a b : Int) : eqIV (.int a) (.int b) = some (decide (a = b)) := by
  show some (a == b) = _
  rw [Bool.beq_eq_decide_eq]
section
variable {os : OS} {a b : Int}
@[simp] theorem cmp_eq_int : cmpPV os .Eq (.iv (.int a)) (.iv (.int b)) = some (decide (a = b)) := eq_int a b
@[simp] theorem cmp_ne_int : cmpPV os .NotEq (.iv (.int a)) (.iv (.int b)) = some (!decide (a = b)) := by
  show (eqIV (.int a) (.int b)).map _ = _
  rw [eq_int]
  rfl
@[simp] theorem cmp_lt_int : cmpPV os .Lt (.iv (.int a)) (.iv (.int b)) = some (decide (a < b)) := by
  show some (PySem.W.dataLt (.int a) (.int b)) = _
  rw [PySem.W.dataLt_int]
@[simp] theorem cmp_gt_int : cmpPV os .Gt (.iv (.int a)) (.iv (.int b)) = some (decide (b < a)) := by
  show some (PySem.W.dataLt (.int b) (.int a)) = _
  rw [PySem.W.dataLt_int]
@[simp] theorem cmp_le_int : cmpPV os .LtE (.iv (.int a)) (.iv (.int b)) = some (decide (a ≤ b)) := by
  show some (!PySem.W.dataLt (.int b) (.int a)) = _
  rw [PySem.W.dataLt_int]
  by_cases h : a ≤ b
  · simp [h]; 
  · simp [h]; omega
@[simp] theorem cmp_ge_int : cmpPV os .GtE (.iv (.int a)) (.iv (.int b)) = some (decide (b ≤ a)) := by
  show some (!PySem.W.dataLt (.int a) (.int b)) = _
  rw [PySem.W.dataLt_int]
  by_cases h : b ≤ a
  · simp [h]; 
  · simp [h]; omega
@[simp] theorem cmp_is_non {x : PV} : cmpPV os .Is x (.iv .non) = some (isNonP x) := rfl
@[simp] theorem cmp_isnot_non {x : PV} : cmpPV os .IsNot x (.iv .non) = some (!isNonP x) := rfl
end
end DP

set_option Elab.async false
set_option linter.all false
set_option maxRecDepth 100000
set_option maxHeartbeats 1000000
/-! Ev26: the state from which all numbers are drawn, by hand. -/
namespace DP
open PySem PySem.Spec PyProof.Rows L2

def greatOf (ns : List Int) : List Int := ns.map fun c => if (10 ^ 18 : Int) ≤ c then c else 0
def begunN : List Str := ["script", "m", "cell"]
def begunFn (Ff : Fn) : Fn := ⟨"_law_begun", ["script"], [false], fun as bs => match as, bs with
  | [.iv (.scr ns)], [] => if szOk ns.length then (match Ff.run [.iv (.scr ns)] [] with
    | .ok (.ob (.lst xs)) [] => (match intsOf xs with
      | some cells => .ok (.ob (.drw cells (greatOf ns) 0)) []
      | none => .bad)
    | _ => .bad) else .bad
  | _, _ => .bad⟩
def begunLc : E := .lc true [2] (.n 2) (.it (.v 0)) [] (.ite (.cmp .GtE (.v 2) (.bin .Pow (.c (.int 10)) (.c (.int 18)))) (.v 2) (.c (.int 0)))
def tBegun (spC : Sp) (W : WX) (lc : TE) : TS :=
  tSeq (tAsg (tDisp [(tC (V.str "cells"), fun σ H Q => tCons (tVar 0) tNil σ H fun vs H1 => spC vs H1 Q (WE W σ)), (tC (V.str "great"), tLst tNil), (tC (V.str "spot"), tC (V.int 0))]) (gName 1))
    (tSeq (sDPut (tVar 1) (tC (V.str "great")) lc) (tRet (tVar 1)))
theorem compGo_map {α : Type} {turn : IV → OS → Res (Option IV)} {f : α → IV} {e : α → IV} {os : OS} : ∀ (xs : List α) (acc : List IV), (∀ x ∈ xs, turn (e x) os = .ok (some (f x)) os) → szOk (acc.length + xs.length) = true → compGo turn (xs.map e) acc os = .ok (acc ++ xs.map f) os
  | [], acc, _, _ => by simp [compGo]
  | x :: xs, acc, h, hz => by
    have hz' : szOk (acc.length + 1) = true := by
      simp only [szOk, Nat.ble_eq, List.length_cons] at hz ⊢
      omega
    simp only [List.map_cons, compGo, h x List.mem_cons_self, Res.bind]
    rw [if_pos hz', compGo_map xs _ (fun y hy => h y (List.mem_cons_of_mem _ hy))]
    · simp
    · simp only [szOk, Nat.ble_eq, List.length_cons, List.length_append, List.length_nil] at hz ⊢
      omega
theorem begunLc_den {fs : FS} {ns : List Int} {x y : Option PV} (hz : szOk ns.length = true) : denE fs begunLc [some (.iv (.scr ns)), x, y] [] = .ok (.ref 0) [.lst ((greatOf ns).map IV.int)] := by
  simp only [begunLc, denE, denI, Res.bind, List.getElem?_cons_zero, itIV, Res.lift, wipeE]
  rw [compGo_map (f := fun c => IV.int (if (10 ^ 18 : Int) ≤ c then c else 0)) (e := IV.int) ns [] (fun c _ => ?_) (by simpa using hz)]
  · simp [Res.bind, mkList, greatOf, List.map_map, Function.comp_def]
  · simp only [compStep, asgT, List.length_set, List.length_cons, List.length_nil]
    rw [if_pos (by decide)]
    have hp : binIV .Pow (.int 10) (.int 18) = some (.int (10 ^ 18)) := rfl
    simp only [denTs, Res.noX, Res.bind, denE, List.set_cons_succ, List.set_cons_zero, List.getElem?_cons_succ, List.getElem?_cons_zero, rd, Option.bind, hp, Option.map, Res.lift, cmp_ge_int]
    by_cases h : (10 ^ 18 : Int) ≤ c
    · simp only [decide_eq_true h, if_pos h, Res.noX, Res.bind, if_true]
    · simp only [decide_eq_false h, if_neg h, Res.noX, Res.bind, if_true]

/-! ### the def -/
def CellsFn (Ff : Fn) : Prop := Ff.ps.length = 1
section
variable {P : Program} {w : World} {K : PySem.W.Frag} {mg : Str → Option Value} {base : Heap} {k : Nat} {fs : FS}
theorem ints_reps {m : G} {L : Addr → Prop} {H : Hp} : ∀ {xs : List IV} {cells : List Int} {vs : List V}, intsOf xs = some cells → Reps m L H xs vs → vs = cells.map V.int
  | [], cells, _, h, .nil => by simp [intsOf] at h; subst h; rfl
  | .int i :: r, cells, _, h, .cons q t => by
    simp only [intsOf] at h
    obtain ⟨c', h1, rfl⟩ := Option.map_eq_some_iff.mp h
    cases q
    rw [ints_reps h1 t]
    rfl
  | .non :: r, _, _, h, _ => by simp [intsOf] at h
  | .bl _ :: r, _, _, h, _ => by simp [intsOf] at h
  | .str _ :: r, _, _, h, _ => by simp [intsOf] at h
  | .ty _ :: r, _, _, h, _ => by simp [intsOf] at h
  | .tup _ :: r, _, _, h, _ => by simp [intsOf] at h
  | .lst _ :: r, _, _, h, _ => by simp [intsOf] at h
  | .dic _ _ :: r, _, _, h, _ => by simp [intsOf] at h
  | .exn _ _ _ :: r, _, _, h, _ => by simp [intsOf] at h
  | .glo _ :: r, _, _, h, _ => by simp [intsOf] at h
  | .scr _ :: r, _, _, h, _ => by simp [intsOf] at h
theorem stOk_more {m : G} {ρ : Rho} {H H' : Hp} (s : StOk m ρ H []) (h : ∀ b o, H b = some o → H' b = some o) : StOk m ρ H' [] ∧ Ext ρ [] H ρ [] H' := by
  have hl : ρ.l = [] := List.length_eq_zero_iff.mp s.len
  refine ⟨⟨s.len, s.nd, s.dis, fun j q hq => ?_, fun j q u hq hu => ?_, s.out, fun b hb => ?_⟩, ⟨⟨[], by simp⟩, fun _ h => h, fun _ h => .inl (.inr h), fun b o e _ => h b o e, fun b l => .inl l⟩⟩
  · rw [hl] at hq; simp at hq
  · simp at hu
  · cases q : H b with
    | none => exact absurd q (s.fth b hb)
    | some o => rw [h b o q]; simp
/-- a new object, all of whose places are new -/
theorem new_ob {m : G} {ρ : Rho} {H H' : Hp} {p : Addr × List Addr} {o : OB} (s : StOk m ρ H []) (h : ∀ b o, H b = some o → H' b = some o) (nd : (p.1 :: p.2).Nodup) (fr : ∀ b ∈ p.1 :: p.2, H b = none)
    (hob : ObR m (Live (ρ.push p) [o]) H' p o) (th : ∀ b ∈ p.1 :: p.2, H' b ≠ none) : StOk m (ρ.push p) H' [o] ∧ Ext ρ [] H (ρ.push p) [o] H' := by
  have hl : ρ.l = [] := List.length_eq_zero_iff.mp s.len
  have one : ∀ {k : Nat} {q : Addr × List Addr}, (ρ.push p).l[k]? = some q → k = 0 ∧ q = p := fun {k q} e => by
    simp only [Rho.push, hl, List.nil_append] at e
    cases k with
    | zero => simp at e; exact ⟨rfl, e.symm⟩
    | succ k => simp at e
  refine ⟨⟨by simp [Rho.push, hl], fun k q e => ?_, fun j k q r n e1 e2 => ?_, fun k q e => ?_, fun k q u e eu => ?_, fun k q e b hb z => ?_, fun b hb => ?_⟩, ⟨⟨[p], rfl⟩, fun _ h => h, fun b z => .inl (.inr z), fun b u e _ => h b u e, fun b l => ?_⟩⟩
  · rw [(one e).2]; exact nd
  · exact absurd ((one e1).1.trans (one e2).1.symm) n
  · rw [(one e).2]; exact th
  · obtain ⟨rfl, rfl⟩ := one e
    simp at eu
    subst eu
    exact hob
  · rw [(one e).2] at hb
    exact s.fth b z (fr b hb)
  · cases q : H b with
    | none => exact absurd q (s.fth b hb)
    | some u => rw [h b u q]; simp
  · obtain ⟨k, q, u, e, _, _, z⟩ := l
    rw [(one e).2] at z
    exact .inr (fr b (by simpa using z))
theorem begun_sp {Ff : Fn} (hf : Ff.ps.length = 1) {vs : List V} {H : Hp} {Q : VK} {E : XK} (q : spF ⟨mg, K⟩ (begunFn Ff) vs H Q E) :
    tBegun (spF ⟨mg, K⟩ Ff) (fun c d _ H2 => E c d H2) (rdE ⟨mg, K⟩ (fun c d _ H2 => E c d H2) (denE fs begunLc)) { nx := fun _ H2 => Q .non H2, rt := Q } (start begunN vs) H := by
  obtain ⟨hl, ρ, as, bs, st, ra, g⟩ := q
  simp only [begunFn] at g
  split at g
  · rename_i ns
    split at g
    rotate_left
    · exact False.elim g
    rename_i hz
    split at g
    · rename_i xs hrun
      split at g
      · rename_i cells hint
        cases ra with
        | cons r0 ra =>
          cases ra
          rename_i v0
          have r0 : Rep _ _ _ (.scr ns) v0 := r0
          have hrl : ρ.l = [] := List.length_eq_zero_iff.mp st.len
          intro p hp
          have ex1 : ∀ b o, H b = some o → upd H p (.dK []) b = some o := fun b o e => by rw [upd_ne (ne_of_none e hp)]; exact e
          have hp1 : upd H p (.dK []) p = some (.dK []) := upd_same
          generalize upd H p (.dK []) = H1 at ex1 hp1
          obtain ⟨st1, x1⟩ := stOk_more st ex1
          refine ⟨v0, rfl, hf.symm, ρ, [.iv (.scr ns)], [], st1, .cons (r0.ext x1) .nil, ?_⟩
          rw [hrun]
          intro ρ' osf H2 v' e2 s2 ht2 ro
          obtain ⟨kk, pp, _, hpp, hob, hnd, rfl⟩ := ro
          obtain ⟨hp2, vs2, hc2, rs2⟩ := s2.obj kk pp _ hpp hob
          have hvs := ints_reps hint rs2
          subst hvs
          have ex2 : ∀ b o, H1 b = some o → H2 b = some o := fun b o e => e2.hold b o e (by rintro ⟨_, _, _, z, _⟩; rw [hrl] at z; simp at z)
          have hcn : H1 pp.1 = none := by
            rcases e2.own pp.1 ⟨kk, pp, _, hpp, hob, hnd, .inl rfl⟩ with ⟨_, _, _, z, _⟩ | z
            · rw [hrl] at z; simp at z
            · exact z
          refine ⟨Nat.zero_le _, fun e he => ?_⟩
          have ex3 : ∀ b o, H2 b = some o → upd H2 e (.lst []) b = some o := fun b o z => by rw [upd_ne (ne_of_none z he)]; exact z
          generalize upd H2 e (.lst []) = H3 at ex3
          refine ⟨ex3 _ _ (ex2 _ _ hp1), [(kCells, .ref pp.1), (kGreat, .ref e), (kSpot, .int 0)], rfl, (by show 3 ≤ 15; decide), ?_⟩
          have mk : mergeK [] [(kCells, V.ref pp.1), (kGreat, V.ref e), (kSpot, V.int 0)] = [(kCells, V.ref pp.1), (kGreat, V.ref e), (kSpot, V.int 0)] := rfl
          rw [mk]
          have hcp : pp.1 ≠ p := fun z => by rw [z, hp1] at hcn; cases hcn
          have ex4 : ∀ b o, b ≠ p → H3 b = some o → upd H3 p (.dK [(kCells, V.ref pp.1), (kGreat, V.ref e), (kSpot, V.int 0)]) b = some o := fun b o n z => by rw [upd_ne n]; exact z
          have hp4 : upd H3 p (.dK [(kCells, V.ref pp.1), (kGreat, V.ref e), (kSpot, V.int 0)]) p = some (.dK [(kCells, V.ref pp.1), (kGreat, V.ref e), (kSpot, V.int 0)]) := upd_same
          generalize upd H3 p (.dK [(kCells, V.ref pp.1), (kGreat, V.ref e), (kSpot, V.int 0)]) = H4 at ex4 hp4
          have all4 : ∀ b o, H b = some o → H4 b = some o := fun b o z => ex4 b o (ne_of_none z hp) (ex3 _ _ (ex2 _ _ (ex1 _ _ z)))
          obtain ⟨st4, x4⟩ := stOk_more st all4
          refine ⟨ρ, [some (.iv (.scr ns)), none, none], [], st4, ⟨by show 3 = _; rfl, fun i x hx => ?_⟩, ?_⟩
          · match i, hx with
            | 0, hx =>
              simp at hx
              subst hx
              exact ⟨v0, rfl, r0.ext x4⟩
            | 1, hx => simp at hx
            | 2, hx => simp at hx
            | i + 3, hx => simp at hx
          · rw [begunLc_den hz]
            intro ρ5 H5 e5 s5 v5 rv5
            obtain ⟨p5, hp5, rfl⟩ := rv5
            obtain ⟨hq5, vs5, hg5, rs5⟩ := s5.obj 0 p5 _ hp5 rfl
            have hgn : H4 p5.1 = none := by
              rcases e5.own p5.1 ⟨0, p5, _, hp5, rfl, by simp, .inl rfl⟩ with ⟨_, _, _, z, _⟩ | z
              · rw [hrl] at z; simp at z
              · exact z
            have ex5 : ∀ b o, H4 b = some o → H5 b = some o := fun b o z => e5.hold b o z (by rintro ⟨_, _, _, y, _⟩; rw [hrl] at y; simp at y)
            have hvs5 : vs5 = (greatOf ns).map V.int := by
              have it : intsOf ((greatOf ns).map IV.int) = some (greatOf ns) := by
                have go : ∀ l : List Int, intsOf (l.map IV.int) = some l := by
                  intro l
                  induction l with
                  | nil => rfl
                  | cons a l ih => simp [intsOf, ih]
                exact go _
              exact ints_reps it rs5
            subst hvs5
            have hpg : p ≠ p5.1 := fun z => by rw [← z, hp4] at hgn; cases hgn
            have hcg : pp.1 ≠ p5.1 := fun z => by
              have := ex4 _ _ hcp (ex3 _ _ hc2)
              rw [z, hgn] at this
              cases this
            refine ⟨.ref p, rfl, p, _, rfl, DPut.k (k := kGreat) (ex5 _ _ hp4) (by show 3 < sizeLine; decide), ?_⟩
            have pk : putK [(kCells, V.ref pp.1), (kGreat, V.ref e), (kSpot, V.int 0)] kGreat (V.ref p5.1) = [(kCells, V.ref pp.1), (kGreat, V.ref p5.1), (kSpot, V.int 0)] := rfl
            rw [pk]
            refine ⟨.ref p, rfl, ?_⟩
            have hl6 : ρ.l.length = 0 := st.len
            have c5 : H5 pp.1 = some (.lst (cells.map V.int)) := ex5 _ _ (ex4 _ _ hcp (ex3 _ _ hc2))
            have hcH : H pp.1 = none := by
              cases q : H pp.1 with
              | none => rfl
              | some o => rw [ex1 _ _ q] at hcn; cases hcn
            have hgH : H p5.1 = none := by
              cases q : H p5.1 with
              | none => rfl
              | some o => rw [all4 _ _ q] at hgn; cases hgn
            obtain ⟨s6, x6⟩ := new_ob (p := (p, [pp.1, p5.1])) (o := .drw cells (greatOf ns) 0) (H' := upd H5 p (.dK [(kCells, V.ref pp.1), (kGreat, V.ref p5.1), (kSpot, V.int 0)])) st (fun b o z => by rw [upd_ne (ne_of_none z hp)]; exact ex5 _ _ (all4 _ _ z))
              (by simp [hpg, hcg, Ne.symm hcp]) (by simp [hp, hcH, hgH]) ⟨pp.1, p5.1, rfl, upd_same, by rw [upd_ne hcp]; exact c5, by rw [upd_ne (Ne.symm hpg)]; exact hg5⟩
              (by simp only [List.mem_cons, List.not_mem_nil, or_false, forall_eq_or_imp, forall_eq]; exact ⟨by rw [upd_same]; simp, by rw [upd_ne hcp, c5]; simp, by rw [upd_ne (Ne.symm hpg), hg5]; simp⟩)
            exact g _ _ _ (.ref p) x6 s6 rfl ⟨0, (p, [pp.1, p5.1]), Nat.le_refl _, by simp [Rho.push, hrl], rfl, by simp, rfl⟩
      · exact False.elim g
    · exact False.elim g
  · exact False.elim g
end
end DP

set_option Elab.async false
set_option linter.all false
set_option maxRecDepth 100000
set_option maxHeartbeats 1000000
/-! Ev27: a whole law: its defs, its draws, its end. -/
namespace DP
open PySem PySem.Spec PyProof.Rows L2

structure Lw where
  top : Nat → Stmt
  gs : List (Str × IV)
  bn : List Str
  itsA : List (D × Nat)
  itsB : List (D × Nat)
  iDraw : Nat
  iBegun : Nat
  law : D
  iLaw : Nat
  mixId : Nat
  foldId : Nat
namespace Lw
variable (L : Lw)
def fsA : FS := fsI L.itsA []
def Fm : Fn := (lookF L.fsA L.mixId).getD default
def Ff : Fn := (lookF L.fsA L.foldId).getD default
def fs0 : FS := (9001, begunFn L.Ff) :: (9000, drawFn) :: L.fsA
def fsB : FS := fsI L.itsB L.fs0
def nmA : List (Nat × Str) := nmI L.itsA []
def nm0 : List (Nat × Str) := (9001, "_law_begun") :: (9000, "_law_draw") :: L.nmA
def nmB : List (Nat × Str) := nmI L.itsB L.nm0
def Fl : Fn := fnD L.fsB L.law
def names : List Str := (L.itsA ++ L.itsB).map (fun p => p.1.name) ++ ([("_law_draw" : Str), ("_law_begun" : Str), L.law.name] : List Str)
def fa : List He.Fa := L.gs.map gsFa ++ L.bn.map He.Fa.free ++ L.names.map He.Fa.glo
def fn : List He.DefD := (L.itsA ++ L.itsB).map (fun p => dd p.1.name (L.top p.2)) ++ [dd "_law_draw" (L.top L.iDraw), dd "_law_begun" (L.top L.iBegun), dd L.law.name (L.top L.iLaw)]
def chk0 : Bool := L.gs.all gsB && chkP L.top L.gs L.bn L.itsA [] && (lookF L.fsA L.mixId).isSome && (lookF L.fsA L.foldId).isSome &&
  scopeB drawN ["m", "limit"] (defScope (L.top L.iDraw)) && argsB (defArgs (L.top L.iDraw)) ["m", "limit"] && scopeB begunN ["script"] (defScope (L.top L.iBegun)) && argsB (defArgs (L.top L.iBegun)) ["script"] &&
  L.bn.contains "int" && L.bn.contains "len" && decide (L.law.ps = ([("script" : Str)] : List Str))
def chk1 : Bool := chkP L.top L.gs L.bn L.itsB L.nm0
def chk2 : Bool := chkD L.gs L.bn L.nmB (L.top L.iLaw) L.law
def lev : Nat := L.itsA.length + 1 + L.itsB.length + 1
def DerD : Prop := ∀ (X : Cx) (W : WX) (k : Nat) (f : Addr) (fd : FuncData), At X W drawN (defScope (L.top L.iDraw)) k → X.mg "int" = none → X.mg "len" = none → FnAt X k L.Fm f fd → PSs X (defBody (L.top L.iDraw)) (tDraw X.K (spF X.g L.Fm) W)
def ccB : CC := ⟨begunN, defScope (L.top L.iBegun), fun _ => true, L.gs, L.bn, L.nmA⟩
def DerB : Prop := ∀ (X : Cx) (W : WX) (k : Nat) (f : Addr) (fd : FuncData), At X W begunN (defScope (L.top L.iBegun)) k → FnAt X k L.Ff f fd → Rdy X W L.ccB k L.fsA → PSs X (defBody (L.top L.iBegun)) (tBegun (spF X.g L.Ff) W (rdE X.g W (denE L.fsA begunLc)))
variable {L}
theorem facts {P : Program} {w : World} {K : PySem.W.Frag} {h : Heap} {mg : Str → Option Value} {fa : Addr} (c0 : L.chk0 = true) (c1 : L.chk1 = true) (c2 : L.chk2 = true) (hm : IntFn2 L.Fm (fun _ n => 0 ≤ n ∧ n < 2305843009213693952) mixed) (hf : L.Ff.ps.length = 1) (dD : L.DerD) (dB : L.DerB)
    (X : K.In h) (G : h.Ns mainGlobals mg) (hfa : mg L.law.name = some (.ref fa)) (c : He.SaysD L.fa L.fn K) :
    ∃ fd : FuncData, (∀ (s : Shared) (u : Value), BindsTo s fd ⟨[u], []⟩ [(("script" : Str), u)]) ∧ ∀ base : Heap, K.In base → base.Ns mainGlobals mg → FnG P w K mg base (L2.CX P w) L.lev fa fd ["script"] (spF ⟨mg, K⟩ L.Fl) := by
  simp only [chk0, Bool.and_eq_true, List.all_eq_true, decide_eq_true_eq] at c0
  obtain ⟨⟨⟨⟨⟨⟨⟨⟨⟨⟨b1, b2⟩, b3⟩, b4⟩, b5⟩, b6⟩, b7⟩, b8⟩, b9⟩, b10⟩, b11⟩ := c0
  have hg : ∀ p ∈ L.gs, GloOk ⟨mg, K⟩ p.1 p.2 := fun p hp => gs_ok X G (says_fact c (by unfold Lw.fa; simp only [List.mem_append, List.mem_map]; exact .inl (.inl ⟨p, hp, rfl⟩))) (b1 p hp)
  have hb : ∀ x ∈ L.bn, mg x = none := fun x hx => He.free_ok X G (says_fact c (by unfold Lw.fa; simp only [List.mem_append, List.mem_map]; exact .inl (.inr ⟨x, hx, rfl⟩)))
  have glo : ∀ x ∈ L.names, He.Fa.glo x ∈ L.fa := fun x hx => by unfold Lw.fa; simp only [List.mem_append, List.mem_map]; exact .inr ⟨x, hx, rfl⟩
  have its : ∀ p ∈ L.itsA ++ L.itsB, ∃ a fd, mg p.1.name = some (.ref a) ∧ FnP K p.1.name (L.top p.2) a fd := fun p hp =>
    says_fn c X G (glo _ (by unfold Lw.names; simp only [List.mem_append, List.mem_map]; exact .inl ⟨p, by simpa using hp, rfl⟩)) (by unfold Lw.fn; simp only [List.mem_append, List.mem_map]; exact .inl ⟨p, by simpa using hp, rfl⟩)
  obtain ⟨aD, fdD, mD, FD⟩ := says_fn (x := "_law_draw") (st := L.top L.iDraw) c X G (glo _ (by unfold Lw.names; simp)) (by unfold Lw.fn; simp)
  obtain ⟨aB, fdB, mB, FB⟩ := says_fn (x := "_law_begun") (st := L.top L.iBegun) c X G (glo _ (by unfold Lw.names; simp)) (by unfold Lw.fn; simp)
  obtain ⟨aL, fdL, mL, FL⟩ := says_fn (x := L.law.name) (st := L.top L.iLaw) c X G (glo _ (by unfold Lw.names; simp)) (by unfold Lw.fn; simp)
  rw [hfa] at mL
  cases mL
  have c2' := c2
  unfold chk2 chkD at c2'
  simp only [Bool.and_eq_true] at c2'
  have lA : lookF L.fsA L.mixId = some L.Fm := by
    unfold Lw.Fm
    cases e : lookF L.fsA L.mixId with
    | none => rw [e] at b3; cases b3
    | some F => rfl
  have lF : lookF L.fsA L.foldId = some L.Ff := by
    unfold Lw.Ff
    cases e : lookF L.fsA L.foldId with
    | none => rw [e] at b4; cases b4
    | some F => rfl
  refine ⟨fdL, fun s u => by have := (args_binds FL c2'.1.1.2).2 s [u] (by rw [b11]; rfl); rw [b11] at this; exact this, fun base kb nb => ?_⟩
  obtain ⟨okA, nmA⟩ := seg_ok (P := P) (w := w) (base := base) (k := 0) (fs := []) (fns := []) hg hb (fun p hp => its p (List.mem_append_left _ hp)) b2 FnsOk.nil NmOk.nil
  rw [Nat.zero_add] at okA
  have okA : FnsOk P w K mg base L.itsA.length L.fsA := okA
  have gD : FnG P w K mg base (L2.CX P w) (L.itsA.length + 1) aD fdD drawFn.ps (spF ⟨mg, K⟩ drawFn) :=
    hand_ok (N := drawN) (t := fun E => tDraw K (spF ⟨mg, K⟩ L.Fm) (fun c d _ H2 => E c d H2)) FD (scopeB_ok b5) rfl (fun vs H Q E q => draw_sp hm q) fun Y E e1 e2 e3 e4 e5 at_ => by
      subst e1 e2 e3 e4 e5
      obtain ⟨f, fd, fat⟩ := okA.at lA
      exact dD Y _ _ f fd at_ (hb _ (by simpa using b9)) (hb _ (by simpa using b10)) fat
  have gB : FnG P w K mg base (L2.CX P w) (L.itsA.length + 1) aB fdB (begunFn L.Ff).ps (spF ⟨mg, K⟩ (begunFn L.Ff)) :=
    hand_ok (N := begunN) (t := fun E => tBegun (spF ⟨mg, K⟩ L.Ff) (fun c d _ H2 => E c d H2) (rdE ⟨mg, K⟩ (fun c d _ H2 => E c d H2) (denE L.fsA begunLc))) FB (scopeB_ok b7) rfl (fun vs H Q E q => begun_sp hf q) fun Y E e1 e2 e3 e4 e5 at_ => by
      subst e1 e2 e3 e4 e5
      obtain ⟨f, fd, fat⟩ := okA.at lF
      have sB := scopeB_ok b7
      exact dB Y _ _ f fd at_ fat ⟨at_.hN, sB.nd, at_.hs, sB.kind, funext at_.fn, at_.calm, at_.rm, at_.gd, at_.tk, at_.own, okA, nmA, hg, hb⟩
  have ok0 : FnsOk P w K mg base (L.itsA.length + 1) L.fs0 :=
    ((okA.up (Nat.le_succ _)).cons (i := 9000) (F := drawFn) mD FD.kp (args_binds FD b6).1 rfl gD).cons (i := 9001) (F := begunFn L.Ff) mB FB.kp (args_binds FB b8).1 rfl gB
  have nm0 : NmOk L.nm0 L.fs0 := NmOk.cons (F := begunFn L.Ff) (NmOk.cons (F := drawFn) nmA)
  obtain ⟨okB, nmB⟩ := seg_ok (P := P) (w := w) (base := base) hg hb (fun p hp => its p (List.mem_append_right _ hp)) c1 ok0 nm0
  have := fn_ok FL c2 okB nmB hg hb
  rw [b11] at this
  exact this
end Lw
end DP

set_option Elab.async false
set_option linter.all false
set_option maxRecDepth 100000

/-! Pg: the defs in the evaluator's syntax (printed by lk.py). -/
namespace DP
open PySem L2
def d_is_name : D := ⟨1, "is_name", ["value"], [false], ["value", "sign"],
  [.ret (.and (.bi .isi [.v 0, .g "str" (.ty "str")]) (.and (.chain .LtE .LtE (.c (.int 1)) (.bi .len [.v 0]) (.g "MOST_LETTERS" (.int 6))) (.bi .all [.lc false [1] (.n 1) (.it (.v 0)) [] (.cmp .In (.v 1) (.g "LETTERS" (.str "abcdefghijklmnopqrstuvwxyz")))])))]⟩
def d_are_rising : D := ⟨2, "are_rising", ["row"], [false], ["row", "one", "other"],
  [.ret (.bi .all [.lc false [1, 2] (.t [.n 1, .n 2]) (.zip (.v 0) (.sLo (.v 0) (.c (.int 1)))) [] (.cmp .Lt (.v 1) (.v 2))])]⟩
def d_are_names : D := ⟨3, "are_names", ["value"], [false], ["value", "name"],
  [.ife (.or (.not (.bi .isi [.v 0, .g "tuple" (.ty "tuple")])) (.not (.chain .LtE .LtE (.c (.int 1)) (.bi .len [.v 0]) (.g "MOST_NAMES" (.int 6))))) [.ret (.c (.bl false))] [],
    .ret (.and (.bi .all [.lc false [1] (.n 1) (.it (.v 0)) [] (.call false 1 [.v 1])]) (.call false 2 [.v 0]))]⟩
def d_is_pair : D := ⟨4, "is_pair", ["names", "value"], [false, false], ["names", "value", "name"],
  [.ife (.or (.not (.bi .isi [.v 1, .g "tuple" (.ty "tuple")])) (.or (.cmp .NotEq (.bi .len [.v 1]) (.c (.int 2))) (.not (.bi .all [.lc false [2] (.n 2) (.it (.v 1)) [] (.bi .isi [.v 2, .g "str" (.ty "str")])])))) [.ret (.c (.bl false))] [],
    .ret (.and (.cmp .In (.idx (.v 1) (.c (.int 0))) (.v 0)) (.and (.cmp .In (.idx (.v 1) (.c (.int 1))) (.v 0)) (.cmp .Lt (.idx (.v 1) (.c (.int 0))) (.idx (.v 1) (.c (.int 1))))))]⟩
def d_is_times : D := ⟨5, "is_times", ["value"], [false], ["value"],
  [.ife (.or (.not (.bi .isi [.v 0, .g "int" (.ty "int")])) (.bi .isi [.v 0, .g "bool" (.ty "bool")])) [.ret (.c (.bl false))] [],
    .ret (.and (.cmp .NotEq (.v 0) (.c (.int 0))) (.chain .LtE .LtE (.neg (.g "MOST_TIMES" (.int 1000000000000000000000000000000))) (.v 0) (.g "MOST_TIMES" (.int 1000000000000000000000000000000))))]⟩
def d_is_step : D := ⟨6, "is_step", ["names", "value"], [false, false], ["names", "value"],
  [.ife (.or (.not (.bi .isi [.v 1, .g "tuple" (.ty "tuple")])) (.or (.cmp .NotEq (.bi .len [.v 1]) (.c (.int 2))) (.not (.bi .isi [.idx (.v 1) (.c (.int 0)), .g "str" (.ty "str")])))) [.ret (.c (.bl false))] [],
    .ret (.and (.cmp .In (.idx (.v 1) (.c (.int 0))) (.v 0)) (.call false 5 [.idx (.v 1) (.c (.int 1))]))]⟩
def d_script_for : D := ⟨7, "script_for", ["field", "deeds"], [false, false], ["field", "deeds", "place", "step"],
  [.ife (.or (.not (.bi .isi [.v 1, .g "tuple" (.ty "tuple")])) (.cmp .Gt (.bi .len [.v 1]) (.g "MOST_STEPS" (.int 60)))) [.never] [],
    .for (.t [.n 2, .n 3]) (.enum (.v 1)) [.ife (.not (.call false 6 [.idx (.v 0) (.c (.int 0)), .v 3])) [.never] []],
    .ret (.v 1)]⟩
def d_need_field : D := ⟨8, "need_field", ["field"], [false], ["field", "pair"],
  [.ife (.or (.not (.bi .isi [.v 0, .g "tuple" (.ty "tuple")])) (.cmp .NotEq (.bi .len [.v 0]) (.c (.int 2)))) [.never] [],
    .ife (.not (.call false 3 [.idx (.v 0) (.c (.int 0))])) [.never] [],
    .ife (.or (.not (.bi .isi [.idx (.v 0) (.c (.int 1)), .g "tuple" (.ty "tuple")])) (.not (.bi .all [.lc false [1] (.n 1) (.it (.idx (.v 0) (.c (.int 1)))) [] (.call false 4 [.idx (.v 0) (.c (.int 0)), .v 1])]))) [.never] [],
    .ife (.not (.call false 2 [.idx (.v 0) (.c (.int 1))])) [.never] [],
    .ret (.v 0)]⟩
def d_are_apart : D := ⟨9, "are_apart", ["field", "one", "other"], [false, false, false], ["field", "one", "other"],
  [.ret (.or (.cmp .In (.tup [.v 1, .v 2]) (.idx (.v 0) (.c (.int 1)))) (.cmp .In (.tup [.v 2, .v 1]) (.idx (.v 0) (.c (.int 1)))))]⟩
def d_meeting : D := ⟨10, "meeting", ["field", "steps", "name"], [false, false, false], ["field", "steps", "name", "place"],
  [.asg (.n 3) (.bin .Sub (.bi .len [.v 1]) (.c (.int 1))),
    .whl (.and (.cmp .GtE (.v 3) (.c (.int 0))) (.call false 9 [.v 0, .idx (.idx (.v 1) (.v 3)) (.c (.int 0)), .v 2])) [.aug 3 .Sub (.c (.int 1))],
    .ret (.v 3)]⟩
def d_push : D := ⟨11, "push", ["field", "steps", "step"], [false, true, false], ["field", "steps", "step", "name", "times", "place"],
  [.asg (.t [.n 3, .n 4]) (.v 2),
    .asg (.n 5) (.call false 10 [.v 0, .v 1, .v 3]),
    .ife (.or (.cmp .Lt (.v 5) (.c (.int 0))) (.cmp .NotEq (.idx (.idx (.v 1) (.v 5)) (.c (.int 0))) (.v 3))) [.ex (.app (.v 1) (.v 2))] [.ife (.cmp .Eq (.bin .Add (.idx (.idx (.v 1) (.v 5)) (.c (.int 1))) (.v 4)) (.c (.int 0))) [.ex (.popAt (.v 1) (.v 5))] [.sub (.v 1) (.v 5) (.tup [.v 3, .bin .Add (.idx (.idx (.v 1) (.v 5)) (.c (.int 1))) (.v 4)])]]]⟩
def d_first_places : D := ⟨12, "first_places", ["field", "steps"], [false, false], ["field", "steps", "found", "still", "place", "step", "name"],
  [.par [2, 3] [.lst true [], .lstOf false (.idx (.v 0) (.c (.int 0)))],
    .for (.t [.n 4, .n 5]) (.enum (.v 1)) [.ife (.cmp .In (.idx (.v 5) (.c (.int 0))) (.v 3)) [.ex (.app (.v 2) (.v 4))] [],
    .asg (.n 3) (.lc false [6] (.n 6) (.it (.v 3)) [.call false 9 [.v 0, .v 6, .idx (.v 5) (.c (.int 0))]] (.v 6)),
    .ife (.cmp .Eq (.v 3) (.lst false [])) [.brk] []],
    .ret (.v 2)]⟩
def d_arranged : D := ⟨13, "arranged", ["field", "steps"], [false, false], ["field", "steps", "left", "found", "place"],
  [.par [2, 3] [.lstOf true (.v 1), .lst true []],
    .whl (.cmp .NotEq (.v 2) (.lst false [])) [.asg (.n 4) (.idx (.bi .min [.lc false [4] (.n 4) (.it (.call false 12 [.v 0, .v 2])) [] (.tup [.idx (.idx (.v 2) (.v 4)) (.c (.int 0)), .v 4])]) (.c (.int 1))),
    .ex (.app (.v 3) (.popAt (.v 2) (.v 4)))],
    .ret (.bi .tuple [.v 3])]⟩
def d_piled : D := ⟨14, "piled", ["field", "steps"], [false, false], ["field", "steps", "found", "step"],
  [.asg (.n 2) (.lst true []),
    .for (.n 3) (.it (.v 1)) [.ex (.call false 11 [.v 0, .v 2, .v 3])],
    .ret (.v 2)]⟩
def d_least_in : D := ⟨15, "least_in", ["field", "steps"], [false, false], ["field", "steps"],
  [.ret (.call false 13 [.v 0, .call false 14 [.v 0, .v 1]])]⟩
def d_need_script : D := ⟨16, "need_script", ["field", "deeds"], [false, false], ["field", "deeds"],
  [.ret (.call false 7 [.call false 8 [.v 0], .v 1])]⟩
def d_back_of : D := ⟨17, "back_of", ["steps"], [false], ["steps", "name", "times"],
  [.ret (.bi .tuple [.lc false [1, 2] (.t [.n 1, .n 2]) (.it (.rev (.v 0))) [] (.tup [.v 1, .neg (.v 2)])])]⟩
def d_length_in : D := ⟨18, "length_in", ["steps"], [false], ["steps", "name", "times"],
  [.ret (.bi .sum [.lc false [1, 2] (.t [.n 1, .n 2]) (.it (.v 0)) [] (.bi .abs [.v 2])])]⟩
def d_law_apart : D := ⟨19, "_law_apart", ["field", "one", "other"], [false, false, false], ["field", "one", "other"],
  [.ret (.or (.cmp .In (.tup [.v 1, .v 2]) (.idx (.v 0) (.c (.int 1)))) (.cmp .In (.tup [.v 2, .v 1]) (.idx (.v 0) (.c (.int 1)))))]⟩
def d_law_met : D := ⟨20, "_law_met", ["field", "steps"], [false, false], ["field", "steps", "k", "name", "other"],
  [.for (.n 2) (.rng1 (.bi .len [.v 1])) [.asg (.n 3) (.idx (.idx (.v 1) (.v 2)) (.c (.int 0))),
    .for (.n 4) (.rng2 (.bin .Add (.v 2) (.c (.int 1))) (.bi .len [.v 1])) [.ife (.cmp .Eq (.idx (.idx (.v 1) (.v 4)) (.c (.int 0))) (.v 3)) [.ret (.tup [.v 2, .v 4])] [],
    .ife (.not (.call false 19 [.v 0, .idx (.idx (.v 1) (.v 4)) (.c (.int 0)), .v 3])) [.brk] []]],
    .ret (.c .non)]⟩
def d_law_pile : D := ⟨21, "_law_pile", ["field", "steps"], [false, false], ["field", "steps", "found", "spot", "one", "other", "times", "between"],
  [.asg (.n 2) (.lstOf true (.v 1)),
    .asg (.n 3) (.call false 20 [.v 0, .v 2]),
    .whl (.cmp .IsNot (.v 3) (.c .non)) [.asg (.t [.n 4, .n 5]) (.v 3),
    .asg (.n 6) (.bin .Add (.idx (.idx (.v 2) (.v 4)) (.c (.int 1))) (.idx (.idx (.v 2) (.v 5)) (.c (.int 1)))),
    .asg (.n 7) (.bin .Add (.sBo (.v 2) (.bin .Add (.v 4) (.c (.int 1))) (.v 5)) (.sLo (.v 2) (.bin .Add (.v 5) (.c (.int 1))))),
    .asg (.n 2) (.cat (.bin .Add (.sHi (.v 2) (.v 4)) (.ite (.cmp .NotEq (.v 6) (.c (.int 0))) (.lst false [.tup [.idx (.idx (.v 2) (.v 4)) (.c (.int 0)), .v 6]]) (.lst false []))) (.v 7)),
    .asg (.n 3) (.call false 20 [.v 0, .v 2])],
    .ret (.v 2)]⟩
def d_law_first : D := ⟨22, "_law_first", ["field", "steps"], [false, false], ["field", "steps", "found", "k", "step"],
  [.asg (.n 2) (.lst true []),
    .for (.n 3) (.rng1 (.bi .len [.v 1])) [.ife (.cmp .Eq (.lc false [4] (.n 4) (.it (.sHi (.v 1) (.v 3))) [.not (.call false 19 [.v 0, .idx (.v 4) (.c (.int 0)), .idx (.idx (.v 1) (.v 3)) (.c (.int 0))])] (.c (.int 1))) (.lst false [])) [.ex (.app (.v 2) (.v 3))] []],
    .ret (.v 2)]⟩
def d_law_field : D := ⟨23, "_law_field", ["m", "most"], [true, false], ["m", "most", "names", "pairs_so", "chance", "k", "other"],
  [.par [2, 3] [.sHi (.tup [.c (.str "a"), .c (.str "b"), .c (.str "c"), .c (.str "dd"), .c (.str "e"), .c (.str "f")]) (.bin .Add (.c (.int 1)) (.call false 9000 [.v 0, .v 1])), .lst true []],
    .asg (.n 4) (.bin .Add (.c (.int 1)) (.call false 9000 [.v 0, .c (.int 3)])),
    .for (.n 5) (.rng1 (.bi .len [.v 2])) [.for (.n 6) (.it (.sLo (.v 2) (.bin .Add (.v 5) (.c (.int 1))))) [.ife (.cmp .Lt (.call false 9000 [.v 0, .c (.int 4)]) (.v 4)) [.ex (.app (.v 3) (.tup [.idx (.v 2) (.v 5), .v 6]))] []]],
    .ret (.tup [.v 2, .bi .tuple [.v 3]])]⟩
def d_law_script : D := ⟨24, "_law_script", ["m", "field", "most"], [true, false, false], ["m", "field", "most", "row", "some", "many", "turn"],
  [.par [3, 4] [.lst true [], .lst false [.c (.int 1), .neg (.c (.int 1)), .c (.int 1), .neg (.c (.int 1)), .c (.int 2), .neg (.c (.int 2)), .c (.int 3), .neg (.c (.int 3)), .c (.int 1), .neg (.c (.int 1)), .c (.int 6), .bin .Pow (.c (.int 10)) (.c (.int 30)), .neg (.bin .Pow (.c (.int 10)) (.c (.int 30))), .bin .Sub (.bin .Pow (.c (.int 10)) (.c (.int 30))) (.c (.int 1))]],
    .asg (.n 5) (.bin .Add (.c (.int 10)) (.bin .Mult (.c (.int 4)) (.bi .int [.cmp .Eq (.call false 9000 [.v 0, .c (.int 6)]) (.c (.int 0))]))),
    .for (.n 6) (.rng1 (.call false 9000 [.v 0, .bin .Add (.v 2) (.c (.int 1))])) [.ex (.app (.v 3) (.tup [.idx (.idx (.v 1) (.c (.int 0))) (.call false 9000 [.v 0, .bi .len [.idx (.v 1) (.c (.int 0))]]), .idx (.v 4) (.call false 9000 [.v 0, .v 5])]))],
    .ret (.bi .tuple [.v 3])]⟩
def d_law_least : D := ⟨25, "_law_least", ["field", "steps"], [false, false], ["field", "steps", "left", "found", "names", "k", "spot"],
  [.par [2, 3] [.call true 21 [.v 0, .v 1], .lst true []],
    .whl (.cmp .NotEq (.v 2) (.lst false [])) [.asg (.n 4) (.srt false (.lc false [5] (.n 5) (.it (.call false 22 [.v 0, .v 2])) [] (.idx (.idx (.v 2) (.v 5)) (.c (.int 0))))),
    .asg (.n 6) (.idx (.lc false [5] (.n 5) (.it (.call false 22 [.v 0, .v 2])) [.cmp .Eq (.idx (.idx (.v 2) (.v 5)) (.c (.int 0))) (.idx (.v 4) (.c (.int 0)))] (.v 5)) (.c (.int 0))),
    .ex (.app (.v 3) (.popAt (.v 2) (.v 6)))],
    .ret (.bi .tuple [.v 3])]⟩
def d_law_back : D := ⟨26, "_law_back", ["steps"], [false], ["steps", "name", "times"],
  [.ret (.bi .tuple [.lc false [1, 2] (.t [.n 1, .n 2]) (.it (.rev (.lstOf false (.v 0)))) [] (.tup [.v 1, .bin .Sub (.c (.int 0)) (.v 2)])])]⟩
def d_least_pile : D := ⟨27, "least_pile", ["field", "deeds"], [false, false], ["field", "deeds"],
  [.ret (.call false 15 [.v 0, .call false 16 [.v 0, .v 1]])]⟩
def d_taken_back : D := ⟨28, "taken_back", ["field", "deeds"], [false, false], ["field", "deeds"],
  [.ret (.call false 15 [.v 0, .call false 17 [.call false 16 [.v 0, .v 1]]])]⟩
def d_length : D := ⟨29, "length", ["field", "deeds"], [false, false], ["field", "deeds"],
  [.ret (.call false 18 [.call false 14 [.v 0, .call false 16 [.v 0, .v 1]]])]⟩
def d_fronts : D := ⟨30, "fronts", ["field", "deeds"], [false, false], ["field", "deeds", "steps", "place"],
  [.asg (.n 2) (.call false 14 [.v 0, .call false 16 [.v 0, .v 1]]),
    .ret (.bi .tuple [.srt false (.lc false [3] (.n 3) (.it (.call false 12 [.v 0, .v 2])) [] (.idx (.idx (.v 2) (.v 3)) (.c (.int 0))))])]⟩
def d_ends : D := ⟨31, "ends", ["field", "deeds"], [false, false], ["field", "deeds", "steps", "place"],
  [.asg (.n 2) (.call false 14 [.v 0, .call false 17 [.call false 16 [.v 0, .v 1]]]),
    .ret (.bi .tuple [.srt false (.lc false [3] (.n 3) (.it (.call false 12 [.v 0, .v 2])) [] (.idx (.idx (.v 2) (.v 3)) (.c (.int 0))))])]⟩
def d_law_like : D := ⟨32, "_law_like", ["heard", "due"], [false, false], ["heard", "due"],
  [.ret (.cmp .Eq (.bi .repr [.v 0]) (.bi .repr [.v 1]))]⟩
def d_law_length : D := ⟨33, "_law_length", ["steps"], [false], ["steps", "name", "times"],
  [.ret (.bi .sum [.lc false [1, 2] (.t [.n 1, .n 2]) (.it (.v 0)) [] (.bi .max [.v 2, .bin .Sub (.c (.int 0)) (.v 2)])])]⟩
def d_is_pile : D := ⟨34, "is_pile", ["field", "deeds"], [false, false], ["field", "deeds"],
  [.ex (.call false 16 [.v 0, .v 1]),
    .ret (.cmp .Eq (.bi .len [.call false 14 [.v 0, .v 1]]) (.bi .len [.v 1]))]⟩
def d_law_folded : D := ⟨35, "_law_folded", ["script"], [false], ["script", "found", "n", "cell"],
  [.asg (.n 1) (.lc true [2] (.n 2) (.rng1 (.c (.int 64))) [] (.bin .Add (.c (.int 17)) (.v 2))),
    .for (.t [.n 2, .n 3]) (.enum (.v 0)) [.sub (.v 1) (.bin .Mod (.bi .int [.v 2]) (.c (.int 64))) (.bin .Mod (.bi .int [.bin .Add (.bin .Mult (.idx (.v 1) (.bin .Mod (.bi .int [.v 2]) (.c (.int 64)))) (.c (.int 48271))) (.v 3)]) (.c (.int 2147483647)))],
    .for (.n 2) (.rng2 (.c (.int 1)) (.c (.int 64))) [.sub (.v 1) (.v 2) (.bin .Mod (.bi .int [.bin .Add (.idx (.v 1) (.v 2)) (.bin .Mult (.idx (.v 1) (.bin .Sub (.v 2) (.c (.int 1)))) (.c (.int 16807)))]) (.c (.int 2147483647)))],
    .ret (.v 1)]⟩
def d_law_mixed : D := ⟨36, "_law_mixed", ["cell", "n"], [false, false], ["cell", "n", "blend"],
  [.asg (.n 2) (.bin .Add (.bin .Add (.bin .Mod (.bi .int [.bin .Mult (.bin .Mult (.v 0) (.bin .Add (.c (.int 1)) (.bin .Mult (.c (.int 2)) (.v 1)))) (.c (.int 48271))]) (.c (.int 2147483647))) (.bin .Mult (.bin .Mult (.c (.int 7919)) (.v 1)) (.v 1))) (.bin .Mult (.c (.int 104729)) (.v 1))),
    .ret (.bin .FloorDiv (.bin .Mod (.bi .int [.bin .Mult (.v 2) (.c (.int 69621))]) (.c (.int 2147483629))) (.c (.int 7)))]⟩
def d_behind_in : D := ⟨38, "behind_in", ["field", "one", "other"], [false, false, false], ["field", "one", "other"],
  [.ret (.call false 14 [.v 0, .bin .Add (.call false 17 [.v 1]) (.bi .tuple [.v 2])])]⟩
def d_distance_in : D := ⟨39, "distance_in", ["field", "one", "other"], [false, false, false], ["field", "one", "other"],
  [.ret (.call false 18 [.call false 38 [.v 0, .v 1, .v 2]])]⟩
def d_three_scripts : D := ⟨40, "three_scripts", ["field", "one", "two", "three"], [false, false, false, false], ["field", "one", "two", "three"],
  [.ex (.call false 16 [.v 0, .v 1]),
    .ret (.tup [.v 1, .call false 7 [.v 0, .v 2], .call false 7 [.v 0, .v 3]])]⟩
def d_law_apart_v2 : D := ⟨41, "_law_apart", ["field", "one", "other"], [false, false, false], ["field", "one", "other"],
  [.ret (.cmp .In (.tup [.bi .min [.v 1, .v 2], .bi .max [.v 1, .v 2]]) (.idx (.v 0) (.c (.int 1))))]⟩
def d_law_meet : D := ⟨42, "_law_meet", ["field", "steps"], [false, false], ["field", "steps", "k", "far"],
  [.for (.n 2) (.rng1 (.bi .len [.v 1])) [.for (.n 3) (.rng2 (.bin .Add (.v 2) (.c (.int 1))) (.bi .len [.v 1])) [.ife (.cmp .Eq (.idx (.idx (.v 1) (.v 3)) (.c (.int 0))) (.idx (.idx (.v 1) (.v 2)) (.c (.int 0)))) [.ret (.tup [.v 2, .v 3])] [],
    .ife (.not (.call false 41 [.v 0, .idx (.idx (.v 1) (.v 2)) (.c (.int 0)), .idx (.idx (.v 1) (.v 3)) (.c (.int 0))])) [.brk] []]],
    .ret (.c .non)]⟩
def d_law_pile_v2 : D := ⟨43, "_law_pile", ["field", "steps"], [false, false], ["field", "steps", "found", "pair", "name", "times"],
  [.asg (.n 2) (.lstOf false (.v 1)),
    .asg (.n 3) (.call false 42 [.v 0, .v 2]),
    .whl (.cmp .IsNot (.v 3) (.c .non)) [.par [4, 5] [.idx (.idx (.v 2) (.idx (.v 3) (.c (.int 0)))) (.c (.int 0)), .bin .Add (.idx (.idx (.v 2) (.idx (.v 3) (.c (.int 0)))) (.c (.int 1))) (.idx (.idx (.v 2) (.idx (.v 3) (.c (.int 1)))) (.c (.int 1)))],
    .asg (.n 2) (.bin .Add (.sHi (.v 2) (.idx (.v 3) (.c (.int 1)))) (.sLo (.v 2) (.bin .Add (.idx (.v 3) (.c (.int 1))) (.c (.int 1))))),
    .asg (.n 2) (.bin .Add (.bin .Add (.sHi (.v 2) (.idx (.v 3) (.c (.int 0)))) (.bin .Mult (.lst false [.tup [.v 4, .v 5]]) (.bi .int [.cmp .NotEq (.v 5) (.c (.int 0))]))) (.sLo (.v 2) (.bin .Add (.idx (.v 3) (.c (.int 0))) (.c (.int 1))))),
    .asg (.n 3) (.call false 42 [.v 0, .v 2])],
    .ret (.v 2)]⟩
def d_law_firsts : D := ⟨44, "_law_firsts", ["field", "steps"], [false, false], ["field", "steps", "found", "k", "step"],
  [.asg (.n 2) (.lst true []),
    .for (.n 3) (.rng1 (.bi .len [.v 1])) [.ife (.cmp .Eq (.lc false [4] (.n 4) (.it (.sHi (.v 1) (.v 3))) [.not (.call false 41 [.v 0, .idx (.v 4) (.c (.int 0)), .idx (.idx (.v 1) (.v 3)) (.c (.int 0))])] (.v 4)) (.lst false [])) [.ex (.app (.v 2) (.v 3))] []],
    .ret (.v 2)]⟩
def d_law_length_v2 : D := ⟨45, "_law_length", ["field", "steps"], [false, false], ["field", "steps", "name", "times"],
  [.ret (.bi .sum [.lc false [2, 3] (.t [.n 2, .n 3]) (.it (.call false 43 [.v 0, .v 1])) [] (.bi .abs [.v 3])])]⟩
def d_law_back_v2 : D := ⟨46, "_law_back", ["steps"], [false], ["steps", "name", "times"],
  [.ret (.bi .tuple [.lc false [1, 2] (.t [.n 1, .n 2]) (.it (.rev (.v 0))) [] (.tup [.v 1, .neg (.v 2)])])]⟩
def d_law_field_v2 : D := ⟨47, "_law_field", ["m", "most"], [true, false], ["m", "most", "names", "some", "k", "other", "pair"],
  [.par [2, 3] [.sHi (.tup [.c (.str "a"), .c (.str "b"), .c (.str "c"), .c (.str "d"), .c (.str "e"), .c (.str "f")]) (.bin .Add (.c (.int 1)) (.call false 9000 [.v 0, .v 1])), .lst false []],
    .for (.n 4) (.rng1 (.bi .len [.v 2])) [.asg (.n 3) (.bin .Add (.v 3) (.lc false [5] (.n 5) (.it (.sLo (.v 2) (.bin .Add (.v 4) (.c (.int 1))))) [] (.tup [.idx (.v 2) (.v 4), .v 5])))],
    .ret (.tup [.v 2, .bi .tuple [.lc false [6] (.n 6) (.it (.v 3)) [.cmp .Eq (.call false 9000 [.v 0, .c (.int 2)]) (.c (.int 0))] (.v 6)]])]⟩
def d_law_steps : D := ⟨48, "_law_steps", ["m", "field", "most", "great"], [true, false, false, false], ["m", "field", "most", "great", "found", "k", "times"],
  [.asg (.n 4) (.lst true []),
    .for (.n 5) (.rng1 (.call false 9000 [.v 0, .bin .Add (.v 2) (.c (.int 1))])) [.asg (.n 6) (.idx (.lst false [.c (.int 1), .neg (.c (.int 1)), .c (.int 1), .neg (.c (.int 1)), .c (.int 2), .neg (.c (.int 2)), .c (.int 3), .neg (.c (.int 1))]) (.call false 9000 [.v 0, .c (.int 8)])),
    .ife (.and (.v 3) (.cmp .Eq (.call false 9000 [.v 0, .c (.int 4)]) (.c (.int 0)))) [.asg (.n 6) (.idx (.lst false [.c (.int 7), .neg (.c (.int 12)), .bin .Pow (.c (.int 10)) (.c (.int 29)), .neg (.bin .Pow (.c (.int 10)) (.c (.int 29))), .bin .Sub (.c (.int 1)) (.bin .Pow (.c (.int 10)) (.c (.int 30))), .bin .Pow (.c (.int 10)) (.c (.int 30))]) (.call false 9000 [.v 0, .c (.int 6)]))] [],
    .ex (.app (.v 4) (.tup [.idx (.idx (.v 1) (.c (.int 0))) (.call false 9000 [.v 0, .bi .len [.idx (.v 1) (.c (.int 0))]]), .v 6]))],
    .ret (.bi .tuple [.v 4])]⟩
def d_law_far : D := ⟨49, "_law_far", ["field", "one", "other"], [false, false, false], ["field", "one", "other"],
  [.ret (.call false 45 [.v 0, .bin .Add (.call false 46 [.v 1]) (.bi .tuple [.v 2])])]⟩
def d_distance : D := ⟨50, "distance", ["field", "one", "other"], [false, false, false], ["field", "one", "other", "mine"],
  [.asg (.n 3) (.call false 14 [.v 0, .call false 16 [.v 0, .v 1]]),
    .ret (.call false 39 [.v 0, .v 3, .call false 14 [.v 0, .call false 7 [.v 0, .v 2]]])]⟩
def d_law_like_v2 : D := ⟨51, "_law_like", ["answer", "due"], [false, false], ["answer", "due"],
  [.ret (.cmp .Eq (.bi .repr [.v 0]) (.bi .repr [.v 1]))]⟩
def d_are_alike : D := ⟨52, "are_alike", ["field", "one", "other"], [false, false, false], ["field", "one", "other"],
  [.ex (.call false 16 [.v 0, .v 1]),
    .ret (.cmp .Eq (.call false 15 [.v 0, .v 1]) (.call false 15 [.v 0, .call false 7 [.v 0, .v 2]]))]⟩
def d_is_between : D := ⟨53, "is_between", ["field", "one", "other", "far"], [false, false, false, false], ["field", "one", "other", "far", "mine", "middle", "yours", "deeds", "whole"],
  [.asg (.t [.n 4, .n 5, .n 6]) (.lc false [7] (.n 7) (.it (.call false 40 [.v 0, .v 1, .v 2, .v 3])) [] (.call false 14 [.v 0, .v 7])),
    .asg (.n 8) (.call false 39 [.v 0, .v 4, .v 6]),
    .ret (.cmp .Eq (.bin .Add (.call false 39 [.v 0, .v 4, .v 5]) (.call false 39 [.v 0, .v 5, .v 6])) (.v 8))]⟩
def d_law_least_v2 : D := ⟨54, "_law_least", ["field", "steps"], [false, false], ["field", "steps", "left", "found", "k", "far"],
  [.par [2, 3] [.call false 43 [.v 0, .v 1], .tup []],
    .whl (.cmp .NotEq (.v 2) (.lst false [])) [.asg (.n 4) (.idx (.bi .min [.lc false [5] (.n 5) (.it (.call false 44 [.v 0, .v 2])) [] (.tup [.idx (.idx (.v 2) (.v 5)) (.c (.int 0)), .v 5])]) (.c (.int 1))),
    .par [3, 2] [.bin .Add (.v 3) (.tup [.idx (.v 2) (.v 4)]), .bin .Add (.sHi (.v 2) (.v 4)) (.sLo (.v 2) (.bin .Add (.v 4) (.c (.int 1))))]],
    .ret (.v 3)]⟩
end DP

set_option Elab.async false
set_option linter.all false
set_option maxRecDepth 100000
set_option maxHeartbeats 1000000
/-! Sy1: the evaluator's equations in a form that simp can use. -/
namespace DP
open PySem L2

/-! ### results -/
section
variable {α β : Type} {a : α} {os os' : OS} {f : α → OS → Res β} {c : Str} {ns : List Str} {vs : List IV} {env env' : Env}
@[simp] theorem bind_ok : (Res.ok a os).bind f = f a os := rfl
@[simp] theorem bind_exc : (Res.exc c ns vs os : Res α).bind f = .exc c ns vs os := rfl
@[simp] theorem bind_bad : (Res.bad : Res α).bind f = .bad := rfl
@[simp] theorem lift_some : Res.lift (some a) os = .ok a os := rfl
@[simp] theorem lift_none : (Res.lift (none : Option α) os) = .bad := rfl
@[simp] theorem noX_ok : (Res.ok a os).noX = .ok a os := rfl
@[simp] theorem noX_bad : (Res.bad : Res α).noX = .bad := rfl
@[simp] theorem toSR_ok {g : α → OS → SR} : (Res.ok a os).toSR env g = g a os := rfl
@[simp] theorem toSR_exc {g : α → OS → SR} : (Res.exc c ns vs os : Res α).toSR env g = .exc c ns vs env os := rfl
@[simp] theorem toSR_bad {g : α → OS → SR} : (Res.bad : Res α).toSR env g = .bad := rfl
@[simp] theorem then_nx {g : Env → OS → SR} : (SR.nx env os).then g = g env os := rfl
@[simp] theorem then_rt {g : Env → OS → SR} {v : PV} : (SR.rt v os).then g = .rt v os := rfl
@[simp] theorem then_bk {g : Env → OS → SR} : (SR.bk env os).then g = .bk env os := rfl
@[simp] theorem then_ct {g : Env → OS → SR} : (SR.ct env os).then g = .ct env os := rfl
@[simp] theorem then_exc {g : Env → OS → SR} : (SR.exc c ns vs env os).then g = .exc c ns vs env os := rfl
@[simp] theorem then_bad {g : Env → OS → SR} : (SR.bad).then g = .bad := rfl
end
/-! ### both ways -/
def brR {α : Type} (x : PV) (a b : Res α) : Res α := match x with
  | .iv (.bl true) => a
  | .iv (.bl false) => b
  | _ => .bad
def brS (x : PV) (a b : SR) : SR := match x with
  | .iv (.bl true) => a
  | .iv (.bl false) => b
  | _ => .bad
def getV (env : Env) (i : Nat) (os : OS) : Res PV := match env[i]? with
  | some (some v) => .ok v os
  | _ => .bad
def asIv {α : Type} (v : PV) (f : IV → Res α) : Res α := match v with
  | .iv x => f x
  | .ref _ => .bad
def asInt {α : Type} (v : PV) (f : Int → Res α) : Res α := match v with
  | .iv (.int i) => f i
  | _ => .bad
@[simp] theorem brR_bl {α : Type} {c : Bool} {a b : Res α} : brR (.iv (.bl c)) a b = cond c a b := by cases c <;> rfl
@[simp] theorem brS_bl {c : Bool} {a b : SR} : brS (.iv (.bl c)) a b = cond c a b := by cases c <;> rfl
@[simp] theorem asIv_iv {α : Type} {x : IV} {f : IV → Res α} : asIv (.iv x) f = f x := rfl
@[simp] theorem asInt_int {α : Type} {i : Int} {f : Int → Res α} : asInt (.iv (.int i)) f = f i := rfl
@[simp] theorem getV_zero {v : PV} {r : Env} {os : OS} : getV (some v :: r) 0 os = .ok v os := rfl
@[simp] theorem getV_succ {o : Option PV} {r : Env} {i : Nat} {os : OS} : getV (o :: r) (i + 1) os = getV r i os := rfl
section
variable {fs : FS} {env : Env} {os : OS} {a b c : E} {i : Nat} {op op' : CmpOp} {bo : Operator} {es : List E} {m : Bool} {x : IV} {e : E}
@[simp] theorem e_c : denE fs (.c x) env os = .ok (.iv x) os := by simp only [denE]
@[simp] theorem e_g {y : Str} : denE fs (.g y x) env os = .ok (.iv x) os := by simp only [denE]
@[simp] theorem e_v : denE fs (.v i) env os = getV env i os := by simp only [denE]; rfl
@[simp] theorem e_bin : denE fs (.bin bo a b) env os = (denE fs a env os).bind fun x os1 => (denE fs b env os1).bind fun y os2 => binF bo x y os2 := by simp only [denE]; rfl
@[simp] theorem e_cat : denE fs (.cat a b) env os = (denE fs a env os).bind fun x os1 => (denE fs b env os1).bind fun y os2 => catF x y os2 := by simp only [denE]
@[simp] theorem e_neg : denE fs (.neg a) env os = (denE fs a env os).bind fun x os1 => asInt x fun i => .ok (.iv (.int (-i))) os1 := by simp only [denE]; rfl
@[simp] theorem e_not : denE fs (.not a) env os = (denE fs a env os).bind fun x os1 => brR x (.ok (.iv (.bl false)) os1) (.ok (.iv (.bl true)) os1) := by
  simp only [denE]
  congr 1
  funext x os1
  cases x with
  | iv x => cases x with
    | bl b => cases b <;> rfl
    | _ => rfl
  | ref k => rfl
@[simp] theorem e_and : denE fs (.and a b) env os = (denE fs a env os).bind fun x os1 => brR x (denE fs b env os1) (.ok (.iv (.bl false)) os1) := by simp only [denE]; rfl
@[simp] theorem e_or : denE fs (.or a b) env os = (denE fs a env os).bind fun x os1 => brR x (.ok (.iv (.bl true)) os1) (denE fs b env os1) := by simp only [denE]; rfl
@[simp] theorem e_cmp : denE fs (.cmp op a b) env os = (denE fs a env os).bind fun x os1 => (denE fs b env os1).bind fun y os2 => .lift ((cmpPV os2 op x y).map fun b => .iv (.bl b)) os2 := by simp only [denE]
def chF {fs : FS} (env : Env) (op' : CmpOp) (c : E) (y : PV) (os2 : OS) (o : Option Bool) : Res PV := match o with
  | some true => (denE fs c env os2).bind fun z os3 => .lift ((cmpPV os3 op' y z).map fun b => .iv (.bl b)) os3
  | some false => .ok (.iv (.bl false)) os2
  | none => .bad
@[simp] theorem chF_some {fs : FS} {env : Env} {op' : CmpOp} {c : E} {y : PV} {os2 : OS} {q : Bool} : chF (fs := fs) env op' c y os2 (some q) = cond q ((denE fs c env os2).bind fun z os3 => .lift ((cmpPV os3 op' y z).map fun b => .iv (.bl b)) os3) (.ok (.iv (.bl false)) os2) := by cases q <;> rfl
@[simp] theorem e_chain : denE fs (.chain op op' a b c) env os = (denE fs a env os).bind fun x os1 => (denE fs b env os1).bind fun y os2 => chF (fs := fs) env op' c y os2 (cmpPV os2 op x y) := by simp only [denE]; rfl
@[simp] theorem e_ite : denE fs (.ite c a b) env os = (denE fs c env os).bind fun x os1 => brR x (denE fs a env os1) (denE fs b env os1) := by simp only [denE]; rfl
@[simp] theorem e_tup : denE fs (.tup es) env os = (denEs fs es env os).bind fun xs os1 => if szOk xs.length = true then .ok (.iv (.tup xs)) os1 else .bad := by simp only [denE]
@[simp] theorem e_lst : denE fs (.lst m es) env os = (denEs fs es env os).bind fun xs os1 => if szOk xs.length = true then mkList m xs os1 else .bad := by simp only [denE]
@[simp] theorem e_idx : denE fs (.idx a b) env os = (denE fs a env os).bind fun x os1 => (denE fs b env os1).bind fun y os2 => idxF x y os2 := by simp only [denE]; rfl
@[simp] theorem e_sLo : denE fs (.sLo a b) env os = (denE fs a env os).bind fun x os1 => (denE fs b env os1).bind fun l os2 => asInt l fun i => .lift (((rd os2 x).bind fun x => slcIV x (some i) none).map .iv) os2 := by simp only [denE]; rfl
@[simp] theorem e_sHi : denE fs (.sHi a b) env os = (denE fs a env os).bind fun x os1 => (denE fs b env os1).bind fun l os2 => asInt l fun i => .lift (((rd os2 x).bind fun x => slcIV x none (some i)).map .iv) os2 := by simp only [denE]; rfl
@[simp] theorem e_sBo : denE fs (.sBo a b c) env os = (denE fs a env os).bind fun x os1 => (denE fs b env os1).bind fun l os2 => asInt l fun i => (denE fs c env os2).bind fun h os3 => asInt h fun j => .lift (((rd os3 x).bind fun x => slcIV x (some i) (some j)).map .iv) os3 := by simp only [denE]; rfl
@[simp] theorem e_rev : denE fs (.rev a) env os = (denE fs a env os).bind fun x os1 => .lift (((rd os1 x).bind revIV).map .iv) os1 := by simp only [denE]
@[simp] theorem e_lc {own : List Nat} {tg : T} {it : E} {ifs : List E} : denE fs (.lc m own tg it ifs e) env os = (denI fs it env os).bind fun xs os1 => (compGo (compStep own tg (wipeE env own) (denTs fs ifs) (denE fs e)) xs [] os1).bind fun ys os2 => mkList m ys os2 := by simp only [denE]
def callN (fs : FS) (m : Bool) (f : Nat) (vs : List PV) (os : OS) : Res PV := match lookF fs f with
  | some F => callF m F vs os
  | none => .bad
theorem callN_of {F : Fn} {f : Nat} {vs : List PV} (h : lookF fs f = some F) : callN fs m f vs os = callF m F vs os := by unfold callN; rw [h]
@[simp] theorem e_call {f : Nat} : denE fs (.call m f es) env os = (denPs fs es env os).bind fun vs os1 => callN fs m f vs os1 := by simp only [denE]; rfl
@[simp] theorem e_bi {q : Bi} : denE fs (.bi q es) env os = (denPs fs es env os).bind fun vs os1 => biF q vs os1 := by simp only [denE]; rfl
def lstOfF (m : Bool) (x : PV) (os : OS) : Res PV := match (rd os x).bind seqIV with
  | some xs => mkList m xs os
  | none => .bad
@[simp] theorem e_lstOf : denE fs (.lstOf m e) env os = (denE fs e env os).bind fun x os1 => lstOfF m x os1 := by simp only [denE]; rfl
@[simp] theorem e_srt : denE fs (.srt m e) env os = (denE fs e env os).bind fun x os1 => srtF m x os1 := by simp only [denE]; rfl
@[simp] theorem e_app : denE fs (.app a e) env os = (denE fs a env os).bind fun x os1 => if isL os1 x = true then (denE fs e env os1).bind fun y os2 => appF x y os2 else .bad := by simp only [denE]
@[simp] theorem e_pop : denE fs (.pop a) env os = (denE fs a env os).bind fun x os1 => popF x os1 := by simp only [denE]
@[simp] theorem e_popAt : denE fs (.popAt a e) env os = (denE fs a env os).bind fun x os1 => if isL os1 x = true then (denE fs e env os1).bind fun y os2 => popAtF x y os2 else .bad := by simp only [denE]
@[simp] theorem e_ext : denE fs (.ext a e) env os = (denE fs a env os).bind fun x os1 => if isL os1 x = true then (denE fs e env os1).bind fun y os2 => extF x y os2 else .bad := by simp only [denE]
@[simp] theorem es_nil : denEs fs [] env os = .ok [] os := by simp only [denEs]
@[simp] theorem es_cons : denEs fs (e :: es) env os = (denE fs e env os).bind fun v os1 => asIv v fun x => (denEs fs es env os1).bind fun xs os2 => .ok (x :: xs) os2 := by simp only [denEs]; rfl
@[simp] theorem ps_nil : denPs fs [] env os = .ok [] os := by simp only [denPs]
@[simp] theorem ps_cons : denPs fs (e :: es) env os = (denE fs e env os).bind fun v os1 => (denPs fs es env os1).bind fun vs os2 => .ok (v :: vs) os2 := by simp only [denPs]
@[simp] theorem ts_nil : denTs fs [] env os = .ok true os := by simp only [denTs]
@[simp] theorem ts_cons : denTs fs (e :: es) env os = (denE fs e env os).bind fun v os1 => brR v (.ok true os1) (.ok false os1) := by
  simp only [denTs]
  congr 1
  funext x os1
  cases x with
  | iv x => cases x with
    | bl b => cases b <;> rfl
    | _ => rfl
  | ref k => rfl
@[simp] theorem i_rng1 : denI fs (.rng1 a) env os = (denE fs a env os).bind fun x os1 => rng1F x os1 := by simp only [denI]
@[simp] theorem i_rng2 : denI fs (.rng2 a b) env os = (denE fs a env os).bind fun x os1 => (denE fs b env os1).bind fun y os2 => rng2F x y os2 := by simp only [denI]
@[simp] theorem i_enum : denI fs (.enum e) env os = (denE fs e env os).bind fun x os1 => asIv x fun y => .lift ((enIV y).map (enumL 0)) os1 := by simp only [denI]; rfl
def zipF (x y : PV) (os : OS) : Res (List IV) := match x, y with
  | .iv (.tup xs), .iv (.tup ys) => .ok (zipL xs ys) os
  | .iv (.lst xs), .iv (.lst ys) => .ok (zipL xs ys) os
  | _, _ => .bad
@[simp] theorem zipF_t {xs ys : List IV} : zipF (.iv (.tup xs)) (.iv (.tup ys)) os = .ok (zipL xs ys) os := rfl
@[simp] theorem zipF_l {xs ys : List IV} : zipF (.iv (.lst xs)) (.iv (.lst ys)) os = .ok (zipL xs ys) os := rfl
@[simp] theorem i_zip : denI fs (.zip a b) env os = (denE fs a env os).bind fun x os1 => (denE fs b env os1).bind fun y os2 => zipF x y os2 := by simp only [denI]; rfl
@[simp] theorem i_it : denI fs (.it e) env os = (denE fs e env os).bind fun x os1 => asIv x fun y => .lift (itIV y) os1 := by simp only [denI]; rfl
/-! ### statements -/
variable {t : T} {ss aa bb : List S} {s : S}
def asgO (o : Option Env) (os : OS) : SR := match o with
  | some env' => .nx env' os
  | none => .bad
@[simp] theorem asgO_some {env' : Env} : asgO (some env') os = .nx env' os := rfl
@[simp] theorem s_ex : denS fs (.ex e) env os = (denE fs e env os).toSR env fun _ os1 => .nx env os1 := by simp only [denS]
@[simp] theorem s_asg : denS fs (.asg t e) env os = (denE fs e env os).toSR env fun v os1 => asgO (asgP t v env) os1 := by simp only [denS]; rfl
@[simp] theorem s_par {is : List Nat} : denS fs (.par is es) env os = (denPs fs es env os).toSR env fun vs os1 => asgO (setAll is vs env) os1 := by simp only [denS]; rfl
def subS (x y : PV) (z : IV) (env : Env) (os : OS) : SR := match setF x y z os with
  | some os4 => .nx env os4
  | none => .bad
@[simp] theorem s_sub : denS fs (.sub a b e) env os = (denE fs e env os).toSR env fun v os1 => (match v with
    | .iv z => (denE fs a env os1).toSR env fun x os2 => (denE fs b env os2).toSR env fun y os3 => subS x y z env os3
    | .ref _ => .bad) := by simp only [denS]; rfl
def augS (env : Env) (i : Nat) (op : Operator) (r : Res PV) : SR := match env[i]? with
    | some (some (.iv x)) => r.toSR env fun v os1 => (match v with
      | .iv y => (match augIV op x y with
        | some z => .nx (env.set i (some (.iv z))) os1
        | none => .bad)
      | _ => .bad)
    | _ => .bad
@[simp] theorem s_aug : denS fs (.aug i bo e) env os = augS env i bo (denE fs e env os) := by simp only [denS]; rfl
@[simp] theorem s_ife : denS fs (.ife c aa bb) env os = (denE fs c env os).toSR env fun v os1 => brS v (denSs fs aa env os1) (denSs fs bb env os1) := by simp only [denS]; rfl
def turnF (fs : FS) (t : T) (b : List S) : IV → Env → OS → SR := fun x env os => match asgT t x env with
    | some env' => denSs fs b env' os
    | none => .bad
@[simp] theorem s_for {it : E} : denS fs (.for t it ss) env os = (denI fs it env os).toSR env fun xs os1 => forGo (turnF fs t ss) xs env os1 := by simp only [denS]; rfl
@[simp] theorem s_whl : denS fs (.whl c ss) env os = whlGo (denE fs c) (denSs fs ss) WF env os := by simp only [denS]
@[simp] theorem s_ret : denS fs (.ret e) env os = (denE fs e env os).toSR env fun v os1 => .rt v os1 := by simp only [denS]
@[simp] theorem s_retN : denS fs .retN env os = .rt (.iv .non) os := by simp only [denS]
@[simp] theorem s_brk : denS fs .brk env os = .bk env os := by simp only [denS]
@[simp] theorem s_cnt : denS fs .cnt env os = .ct env os := by simp only [denS]
@[simp] theorem s_pas : denS fs .pas env os = .nx env os := by simp only [denS]
def frzS (env : Env) (i : Nat) (os : OS) : SR := match env[i]? with
    | some (some (.ref k)) => (match os[k]? with
      | some (.lst xs) => .nx (env.set i (some (.iv (.lst xs)))) (os.set k .dead)
      | _ => .bad)
    | _ => .bad
@[simp] theorem s_frz : denS fs (.frz i) env os = frzS env i os := by simp only [denS]; rfl
@[simp] theorem s_never : denS fs .never env os = .bad := by simp only [denS]
@[simp] theorem z_nil : denSs fs [] env os = .nx env os := by simp only [denSs]
@[simp] theorem z_cons : denSs fs (s :: ss) env os = (denS fs s env os).then fun env' os' => denSs fs ss env' os' := by simp only [denSs]
end
/-! ### the end of a def -/
@[simp] theorem finish_nx {n : Nat} {env : Env} {os : OS} : finish n (.nx env os) = .ok (.iv .non) (os.take n) := rfl
@[simp] theorem finish_iv {n : Nat} {x : IV} {os : OS} : finish n (.rt (.iv x) os) = .ok (.iv x) (os.take n) := rfl
@[simp] theorem finish_exc {n : Nat} {env : Env} {os : OS} {c : Str} {ns : List Str} {vs : List IV} : finish n (.exc c ns vs env os) = .exc c ns vs (os.take n) := rfl
theorem fnD_run {fs : FS} {d : D} {as : List PV} {bs : OS} : (fnD fs d).run as bs = finish bs.length (denSs fs d.body (as.map some ++ List.replicate (d.N.length - as.length) none) bs) := runDef_eq
end DP

set_option Elab.async false
set_option linter.all false
set_option maxRecDepth 100000
set_option maxHeartbeats 1000000
/-! Sy2: typed values as trees. -/
namespace DP
open PySem L2

/-- values that can be compared for equality -/
def hasB {α : Type} [DecidableEq α] (a : α) (xs : List α) : Bool := xs.any fun x => decide (x = a)
theorem hasB_iff {α : Type} [DecidableEq α] {a : α} {xs : List α} : hasB a xs = true ↔ a ∈ xs := by
  simp only [hasB, List.any_eq_true, decide_eq_true_eq]
  exact ⟨fun ⟨x, h, e⟩ => e ▸ h, fun h => ⟨a, h, rfl⟩⟩
theorem hasB_false {α : Type} [DecidableEq α] {a : α} {xs : List α} : hasB a xs = false ↔ a ∉ xs := by
  rw [← hasB_iff, Bool.not_eq_true]
class En (α : Type) where
  iv : α → IV
  da : α → PyData
  dep : Nat
  to : ∀ a, toD (iv a) = some (da a)
  back : ∀ a, ofD (da a) = iv a
  lay : ∀ a, (da a).canLay0 = true
  dle : ∀ a, (da a).depth ≤ dep
  inj : ∀ a b, PyData.eqv (da a) (da b) = true ↔ a = b
open En (iv da)

section
variable {α β : Type} [En α] [En β]
theorem En.eqv_dec [DecidableEq α] (a b : α) : PyData.eqv (da a) (da b) = decide (a = b) := by
  by_cases h : a = b
  · rw [decide_eq_true h]; exact (En.inj a b).mpr h
  · rw [decide_eq_false h]
    cases e : PyData.eqv (da a) (da b) with
    | false => rfl
    | true => exact absurd ((En.inj a b).mp e) h
theorem toDs_map : ∀ xs : List α, toDs (xs.map iv) = some (xs.map da)
  | [] => rfl
  | x :: xs => by simp [toDs, En.to, toDs_map xs]
theorem ofDs_map : ∀ xs : List α, ofDs (xs.map da) = xs.map iv
  | [] => rfl
  | x :: xs => by simp [ofDs, En.back, ofDs_map xs]
theorem lays_map : ∀ xs : List α, PyData.canLayAll0 (xs.map da) = true
  | [] => rfl
  | x :: xs => by simp [PyData.canLayAll0, En.lay, lays_map xs]
theorem deps_map : ∀ xs : List α, PyData.depthAll (xs.map da) ≤ En.dep α
  | [] => Nat.zero_le _
  | x :: xs => by
    simp only [List.map_cons, PyData.depthAll]
    exact Nat.max_le.mpr ⟨En.dle x, deps_map xs⟩
theorem eqvs_map : ∀ xs ys : List α, PyData.eqvAll (xs.map da) (ys.map da) = true ↔ xs = ys
  | [], [] => by simp [PyData.eqvAll]
  | [], _ :: _ => by simp [PyData.eqvAll]
  | _ :: _, [] => by simp [PyData.eqvAll]
  | x :: xs, y :: ys => by
    simp only [List.map_cons, PyData.eqvAll, Bool.and_eq_true, En.inj, eqvs_map xs ys, List.cons.injEq]
instance : En Int := ⟨.int, .int, 0, fun _ => rfl, fun _ => rfl, fun _ => rfl, fun _ => Nat.le_refl _, fun a b => by simp [PyData.eqv]⟩
instance : En Bool := ⟨.bl, .bool, 0, fun _ => rfl, fun _ => rfl, fun _ => rfl, fun _ => Nat.le_refl _, fun a b => by simp [PyData.eqv]⟩
/-- names: texts of plain signs -/
structure Nm where
  s : Str
  ok : PyData.strOk s = true
  deriving DecidableEq
instance : En Nm := ⟨fun n => .str n.s, fun n => .str n.s, 0, fun _ => rfl, fun _ => rfl, fun n => n.ok, fun _ => Nat.le_refl _, fun a b => by
  cases a; cases b; simp [PyData.eqv]⟩
instance : En (α × β) := ⟨fun p => .tup [iv p.1, iv p.2], fun p => .tuple [da p.1, da p.2], max (En.dep α) (En.dep β) + 1, fun p => by simp [toD, toDs, En.to], fun p => by simp [ofD, ofDs, En.back],
  fun p => by simp [PyData.canLay0, PyData.canLayAll0, En.lay], fun p => by
    have h1 := En.dle p.1
    have h2 := En.dle p.2
    simp only [PyData.depth, PyData.depthAll]
    omega, fun p q => by
    cases p; cases q
    simp [PyData.eqv, PyData.eqvAll, En.inj]⟩
/-- tuples and lists of values of one kind -/
structure Tu (α : Type) where
  l : List α
  deriving DecidableEq
structure Li (α : Type) where
  l : List α
  deriving DecidableEq
instance : En (Tu α) := ⟨fun t => .tup (t.l.map iv), fun t => .tuple (t.l.map da), En.dep α + 1, fun t => by simp [toD, toDs_map], fun t => by simp [ofD, ofDs_map], fun t => lays_map t.l, fun t => Nat.succ_le_succ (deps_map t.l), fun s t => by
  cases s; cases t; simp [PyData.eqv, eqvs_map]⟩
instance : En (Li α) := ⟨fun t => .lst (t.l.map iv), fun t => .list (t.l.map da), En.dep α + 1, fun t => by simp [toD, toDs_map], fun t => by simp [ofD, ofDs_map], fun t => lays_map t.l, fun t => Nat.succ_le_succ (deps_map t.l), fun s t => by
  cases s; cases t; simp [PyData.eqv, eqvs_map]⟩
theorem iv_int (i : Int) : iv i = IV.int i := rfl
theorem iv_bl (i : Bool) : iv i = IV.bl i := rfl
theorem iv_nm (n : Nm) : iv n = IV.str n.s := rfl
theorem iv_pair (p : α × β) : iv p = IV.tup [iv p.1, iv p.2] := rfl
theorem iv_tu (t : Tu α) : iv t = IV.tup (t.l.map iv) := rfl
theorem iv_li (t : Li α) : iv t = IV.lst (t.l.map iv) := rfl
theorem sh_of {a : α} (h : En.dep α ≤ 64) : SeqAt.shaped (da a) = true := by
  have := En.dle a
  simp only [SeqAt.shaped, En.lay, Bool.true_and, decide_eq_true_eq]
  omega
theorem eq_iv [DecidableEq α] (h : En.dep α ≤ 64) (a b : α) : eqIV (iv a) (iv b) = some (decide (a = b)) := by
  unfold eqIV
  split
  · rename_i x y h1 h2
    have t1 := En.to a
    have t2 := En.to b
    rw [isStr_eq h1] at t1
    rw [isStr_eq h2] at t2
    simp only [toD, Option.some.injEq] at t1 t2
    have q := En.eqv_dec a b
    rw [← t1, ← t2] at q
    have q' : (x == y) = decide (a = b) := q
    rw [← q', Bool.beq_eq_decide_eq]
  · simp [En.to, sh_of h, En.eqv_dec]
section
variable [DecidableEq α] {os : OS} {a b : α} {xs ys : List α}
theorem cmp_eq (h : En.dep α ≤ 64) : cmpPV os .Eq (.iv (iv a)) (.iv (iv b)) = some (decide (a = b)) := eq_iv h a b
theorem cmp_ne (h : En.dep α ≤ 64) : cmpPV os .NotEq (.iv (iv a)) (.iv (iv b)) = some (!decide (a = b)) := by
  show (eqIV (iv a) (iv b)).map _ = _
  rw [eq_iv h]; rfl
theorem any_mem (a : α) (xs : List α) : (xs.map da).any (fun z => PyData.eqv z (da a)) = hasB a xs := by
  simp [hasB, List.any_map, Function.comp_def, En.eqv_dec]
theorem any_mem' (a : α) (xs : List α) : xs.any ((fun z => PyData.eqv z (da a)) ∘ da) = hasB a xs := by rw [← any_mem a xs, List.any_map]
theorem in_tup (h : En.dep α + 1 ≤ 64) : inIV (iv a) (.tup (xs.map iv)) = some (hasB a xs) := by
  have h1 : SeqAt.shaped (.tuple (xs.map da)) = true := sh_of (α := Tu α) (a := ⟨xs⟩) h
  simp [inIV, En.to, toDs_map, sh_of (a := a) (by omega), h1, any_mem']
theorem in_lst (h : En.dep α + 1 ≤ 64) : inIV (iv a) (.lst (xs.map iv)) = some (hasB a xs) := by
  have h1 : SeqAt.shaped (.list (xs.map da)) = true := sh_of (α := Li α) (a := ⟨xs⟩) h
  simp [inIV, En.to, toDs_map, sh_of (a := a) (by omega), h1, any_mem']
theorem cmp_in_tup (h : En.dep α + 1 ≤ 64) : cmpPV os .In (.iv (iv a)) (.iv (.tup (xs.map iv))) = some (hasB a xs) := in_tup h
theorem cmp_in_lst (h : En.dep α + 1 ≤ 64) : cmpPV os .In (.iv (iv a)) (.iv (.lst (xs.map iv))) = some (hasB a xs) := in_lst h
theorem cmp_nin_tup (h : En.dep α + 1 ≤ 64) : cmpPV os .NotIn (.iv (iv a)) (.iv (.tup (xs.map iv))) = some (!hasB a xs) := by
  show (inIV _ _).map _ = _
  rw [in_tup h]; rfl
theorem cmp_nin_lst (h : En.dep α + 1 ≤ 64) : cmpPV os .NotIn (.iv (iv a)) (.iv (.lst (xs.map iv))) = some (!hasB a xs) := by
  show (inIV _ _).map _ = _
  rw [in_lst h]; rfl
theorem cmp_eq_tup (h : En.dep α + 1 ≤ 64) : cmpPV os .Eq (.iv (.tup (xs.map iv))) (.iv (.tup (ys.map iv))) = some (decide (xs = ys)) := by
  have := cmp_eq (α := Tu α) (os := os) (a := ⟨xs⟩) (b := ⟨ys⟩) h
  rw [iv_tu, iv_tu] at this
  rw [this]
  simp
theorem cmp_eq_lst (h : En.dep α + 1 ≤ 64) : cmpPV os .Eq (.iv (.lst (xs.map iv))) (.iv (.lst (ys.map iv))) = some (decide (xs = ys)) := by
  have := cmp_eq (α := Li α) (os := os) (a := ⟨xs⟩) (b := ⟨ys⟩) h
  rw [iv_li, iv_li] at this
  rw [this]
  simp
end
end
@[simp] theorem cmp_nil {os : OS} : cmpPV os .Eq (.iv (.lst [])) (.iv (.lst [])) = some true := rfl
@[simp] theorem cmp_nnil {os : OS} : cmpPV os .NotEq (.iv (.lst [])) (.iv (.lst [])) = some false := rfl
@[simp] theorem cmp_tnil {os : OS} : cmpPV os .Eq (.iv (.tup [])) (.iv (.tup [])) = some true := rfl
@[simp] theorem cmp_tnnil {os : OS} : cmpPV os .NotEq (.iv (.tup [])) (.iv (.tup [])) = some false := rfl
@[simp] theorem cmp_eq_str {os : OS} {x y : Str} : cmpPV os .Eq (.iv (.str x)) (.iv (.str y)) = some (decide (x = y)) := rfl
@[simp] theorem cmp_ne_str {os : OS} {x y : Str} : cmpPV os .NotEq (.iv (.str x)) (.iv (.str y)) = some (!decide (x = y)) := rfl
@[simp] theorem cmp_is_bl {os : OS} {x y : Bool} : cmpPV os .Is (.iv (.bl x)) (.iv (.bl y)) = some (decide (x = y)) := rfl
@[simp] theorem cmp_isnot_bl {os : OS} {x y : Bool} : cmpPV os .IsNot (.iv (.bl x)) (.iv (.bl y)) = some (!decide (x = y)) := rfl
/-! ### order of names -/
def Nm.key (n : Nm) : List Nat := n.s.cps.toList
instance : LT Nm := ⟨fun a b => a.key < b.key⟩
instance (a b : Nm) : Decidable (a < b) := inferInstanceAs (Decidable (a.key < b.key))
theorem Nm.key_inj {a b : Nm} (h : a.key = b.key) : a = b := by
  cases a; cases b
  simp only [Nm.key] at h
  have := PySem.W.str_of_cps h
  subst this
  rfl
theorem cmp_lt_nm {os : OS} {a b : Nm} : cmpPV os .Lt (.iv (iv a)) (.iv (iv b)) = some (decide (a < b)) := by
  have h : ordIV (.str a.s) (.str b.s) = some (.str a.s, .str b.s) := by
    have h1 : SeqAt.shaped (.str a.s) = true := sh_of (a := a) (by decide)
    have h2 : SeqAt.shaped (.str b.s) = true := sh_of (a := b) (by decide)
    simp [ordIV, toD, h1, h2, PySem.W.alike, nnD]
  show (ordIV (.str a.s) (.str b.s)).map _ = _
  rw [h]
  simp only [Option.map_some, PySem.W.dataLt_str]
  rfl
end DP

set_option Elab.async false
set_option linter.all false
set_option maxRecDepth 100000
set_option maxHeartbeats 1000000
/-! Sy3: calls, loops, comprehensions, built-ins on typed values. -/
namespace DP
open PySem L2
open En (iv da)

/-! ### truths -/
section
variable {os : OS} {c d : Bool}
@[simp high] theorem cond_or : cond c (Res.ok (PV.iv (.bl true)) os) (Res.ok (PV.iv (.bl d)) os) = Res.ok (PV.iv (.bl (c || d))) os := by cases c <;> rfl
@[simp high] theorem cond_and : cond c (Res.ok (PV.iv (.bl d)) os) (Res.ok (PV.iv (.bl false)) os) = Res.ok (PV.iv (.bl (c && d))) os := by cases c <;> rfl
@[simp high] theorem cond_not : cond c (Res.ok (PV.iv (.bl false)) os) (Res.ok (PV.iv (.bl true)) os) = Res.ok (PV.iv (.bl (!c))) os := by cases c <;> rfl
@[simp high] theorem cond_t : cond c (Res.ok true os) (Res.ok false os) = Res.ok c os := by cases c <;> rfl
end
/-! ### calls -/
@[simp] theorem adopt_fiv {x : IV} {os : OS} : adopt false (.iv x) os = .ok (.iv x) os := rfl
@[simp] theorem adopt_fob {xs : List IV} {os : OS} : adopt false (.ob (.lst xs)) os = .ok (.iv (.lst xs)) os := rfl
@[simp] theorem adopt_tlst {xs : List IV} {os : OS} : adopt true (.ob (.lst xs)) os = .ok (.ref os.length) (os ++ [.lst xs]) := rfl
@[simp] theorem adopt_tdrw {a b : List Int} {c : Int} {os : OS} : adopt true (.ob (.drw a b c)) os = .ok (.ref os.length) (os ++ [.drw a b c]) := rfl
section
variable {m : Bool} {F : Fn} {os : OS} {v : Out} {a b c d e : IV} {x y z u w : PV}
theorem callF1 (hb : F.bor = [false]) (hr : F.run [.iv a] [] = .ok v []) : callF m F [.iv a] os = adopt m v os := by
  unfold callF; rw [hb]; simp [borKs, lendA, objsAt, hr, snapd, putBack]
theorem callF2 (hb : F.bor = [false, false]) (hr : F.run [.iv a, .iv b] [] = .ok v []) : callF m F [.iv a, .iv b] os = adopt m v os := by
  unfold callF; rw [hb]; simp [borKs, lendA, objsAt, hr, snapd, putBack]
theorem callF3 (hb : F.bor = [false, false, false]) (hr : F.run [.iv a, .iv b, .iv c] [] = .ok v []) : callF m F [.iv a, .iv b, .iv c] os = adopt m v os := by
  unfold callF; rw [hb]; simp [borKs, lendA, objsAt, hr, snapd, putBack]
theorem callF4 (hb : F.bor = [false, false, false, false]) (hr : F.run [.iv a, .iv b, .iv c, .iv d] [] = .ok v []) : callF m F [.iv a, .iv b, .iv c, .iv d] os = adopt m v os := by
  unfold callF; rw [hb]; simp [borKs, lendA, objsAt, hr, snapd, putBack]
theorem callF5 (hb : F.bor = [false, false, false, false, false]) (hr : F.run [.iv a, .iv b, .iv c, .iv d, .iv e] [] = .ok v []) : callF m F [.iv a, .iv b, .iv c, .iv d, .iv e] os = adopt m v os := by
  unfold callF; rw [hb]; simp [borKs, lendA, objsAt, hr, snapd, putBack]
theorem lend_one {os : OS} {bs : List Bool} {vs : List PV} {j : Nat} {x : PV} {a : IV} (h : rd os x = some a) : lendA os [] (false :: bs) (x :: vs) j = (lendA os [] bs vs j).map (.iv a :: ·) := by
  cases x with
  | iv y => simp only [rd, Option.some.injEq] at h; subst h; simp [lendA]
  | ref k => simp [lendA, h]
theorem bor_one {bs : List Bool} {vs : List PV} {x : PV} : borKs (false :: bs) (x :: vs) = borKs bs vs := by cases x <;> simp [borKs]
/-- arguments that are read, some of them objects -/
theorem callF1r (hb : F.bor = [false]) (h1 : rd os x = some a) (hr : F.run [.iv a] [] = .ok v []) (ho : outNo v = true) : callF m F [x] os = adopt m v os := by
  unfold callF; rw [hb]; simp [bor_one, borKs, lend_one h1, lendA, objsAt, hr, putBack, ho]
theorem callF2r (hb : F.bor = [false, false]) (h1 : rd os x = some a) (h2 : rd os y = some b) (hr : F.run [.iv a, .iv b] [] = .ok v []) (ho : outNo v = true) : callF m F [x, y] os = adopt m v os := by
  unfold callF; rw [hb]; simp [bor_one, borKs, lend_one h1, lend_one h2, lendA, objsAt, hr, putBack, ho]
theorem callF3r (hb : F.bor = [false, false, false]) (h1 : rd os x = some a) (h2 : rd os y = some b) (h3 : rd os z = some c) (hr : F.run [.iv a, .iv b, .iv c] [] = .ok v []) (ho : outNo v = true) : callF m F [x, y, z] os = adopt m v os := by
  unfold callF; rw [hb]; simp [bor_one, borKs, lend_one h1, lend_one h2, lend_one h3, lendA, objsAt, hr, putBack, ho]
/-- the first, or the second one is lent -/
theorem callB10 {k : Nat} {o o' : OB} (hb : F.bor = [true, false]) (ho : os[k]? = some o) (hd : notDead o = true) (hr : F.run [.ref 0, .iv b] [o] = .ok v [o']) (hd' : notDead o' = true) : callF m F [.ref k, .iv b] os = adopt m v (os.set k o') := by
  unfold callF; rw [hb]; simp [borKs, lendA, objsAt, ho, hd, hr, hd', snapd, putBack]
theorem callB100 {k : Nat} {o o' : OB} (hb : F.bor = [true, false, false]) (ho : os[k]? = some o) (hd : notDead o = true) (hr : F.run [.ref 0, .iv b, .iv c] [o] = .ok v [o']) (hd' : notDead o' = true) : callF m F [.ref k, .iv b, .iv c] os = adopt m v (os.set k o') := by
  unfold callF; rw [hb]; simp [borKs, lendA, objsAt, ho, hd, hr, hd', snapd, putBack]
theorem callB1000 {k : Nat} {o o' : OB} (hb : F.bor = [true, false, false, false]) (ho : os[k]? = some o) (hd : notDead o = true) (hr : F.run [.ref 0, .iv b, .iv c, .iv d] [o] = .ok v [o']) (hd' : notDead o' = true) : callF m F [.ref k, .iv b, .iv c, .iv d] os = adopt m v (os.set k o') := by
  unfold callF; rw [hb]; simp [borKs, lendA, objsAt, ho, hd, hr, hd', snapd, putBack]
theorem callB1 {k : Nat} {o o' : OB} (hb : F.bor = [true]) (ho : os[k]? = some o) (hd : notDead o = true) (hr : F.run [.ref 0] [o] = .ok v [o']) (hd' : notDead o' = true) : callF m F [.ref k] os = adopt m v (os.set k o') := by
  unfold callF; rw [hb]; simp [borKs, lendA, objsAt, ho, hd, hr, hd', snapd, putBack]
theorem callB010 {k : Nat} {o o' : OB} (hb : F.bor = [false, true, false]) (ho : os[k]? = some o) (hd : notDead o = true) (hr : F.run [.iv a, .ref 0, .iv c] [o] = .ok v [o']) (hd' : notDead o' = true) : callF m F [.iv a, .ref k, .iv c] os = adopt m v (os.set k o') := by
  unfold callF; rw [hb]; simp [borKs, lendA, objsAt, ho, hd, hr, hd', snapd, putBack]
end
/-- the function with a number keeps P -/
def Sp0 (fs : FS) (i : Nat) (bor : List Bool) (P : Fn → Prop) : Prop := ∃ F0, lookF fs i = some F0 ∧ F0.bor = bor ∧ P F0
section
variable {fs : FS} {i : Nat} {P : Fn → Prop} {m : Bool} {os : OS} {v : Out} {a b c d e : IV} {x y z : PV} {k : Nat} {o o' : OB}
theorem Sp0.c1 (h : Sp0 fs i [false] P) (q : ∀ F0, P F0 → F0.run [.iv a] [] = .ok v []) : callN fs m i [.iv a] os = adopt m v os := by
  obtain ⟨F0, h1, h2, h3⟩ := h; rw [callN_of h1, callF1 h2 (q F0 h3)]
theorem Sp0.c2 (h : Sp0 fs i [false, false] P) (q : ∀ F0, P F0 → F0.run [.iv a, .iv b] [] = .ok v []) : callN fs m i [.iv a, .iv b] os = adopt m v os := by
  obtain ⟨F0, h1, h2, h3⟩ := h; rw [callN_of h1, callF2 h2 (q F0 h3)]
theorem Sp0.c3 (h : Sp0 fs i [false, false, false] P) (q : ∀ F0, P F0 → F0.run [.iv a, .iv b, .iv c] [] = .ok v []) : callN fs m i [.iv a, .iv b, .iv c] os = adopt m v os := by
  obtain ⟨F0, h1, h2, h3⟩ := h; rw [callN_of h1, callF3 h2 (q F0 h3)]
theorem Sp0.c4 (h : Sp0 fs i [false, false, false, false] P) (q : ∀ F0, P F0 → F0.run [.iv a, .iv b, .iv c, .iv d] [] = .ok v []) : callN fs m i [.iv a, .iv b, .iv c, .iv d] os = adopt m v os := by
  obtain ⟨F0, h1, h2, h3⟩ := h; rw [callN_of h1, callF4 h2 (q F0 h3)]
theorem Sp0.r1 (h : Sp0 fs i [false] P) (h1 : rd os x = some a) (q : ∀ F0, P F0 → F0.run [.iv a] [] = .ok v []) (ho : outNo v = true) : callN fs m i [x] os = adopt m v os := by
  obtain ⟨F0, h2, h3, h4⟩ := h; rw [callN_of h2, callF1r h3 h1 (q F0 h4) ho]
theorem Sp0.r2 (h : Sp0 fs i [false, false] P) (h1 : rd os x = some a) (h2 : rd os y = some b) (q : ∀ F0, P F0 → F0.run [.iv a, .iv b] [] = .ok v []) (ho : outNo v = true) : callN fs m i [x, y] os = adopt m v os := by
  obtain ⟨F0, g1, g2, g3⟩ := h; rw [callN_of g1, callF2r g2 h1 h2 (q F0 g3) ho]
theorem Sp0.r3 (h : Sp0 fs i [false, false, false] P) (h1 : rd os x = some a) (h2 : rd os y = some b) (h3 : rd os z = some c) (q : ∀ F0, P F0 → F0.run [.iv a, .iv b, .iv c] [] = .ok v []) (ho : outNo v = true) : callN fs m i [x, y, z] os = adopt m v os := by
  obtain ⟨F0, g1, g2, g3⟩ := h; rw [callN_of g1, callF3r g2 h1 h2 h3 (q F0 g3) ho]
theorem Sp0.b10 (h : Sp0 fs i [true, false] P) (ho : os[k]? = some o) (hd : notDead o = true) (q : ∀ F0, P F0 → F0.run [.ref 0, .iv b] [o] = .ok v [o']) (hd' : notDead o' = true) : callN fs m i [.ref k, .iv b] os = adopt m v (os.set k o') := by
  obtain ⟨F0, g1, g2, g3⟩ := h; rw [callN_of g1, callB10 g2 ho hd (q F0 g3) hd']
theorem Sp0.b100 (h : Sp0 fs i [true, false, false] P) (ho : os[k]? = some o) (hd : notDead o = true) (q : ∀ F0, P F0 → F0.run [.ref 0, .iv b, .iv c] [o] = .ok v [o']) (hd' : notDead o' = true) : callN fs m i [.ref k, .iv b, .iv c] os = adopt m v (os.set k o') := by
  obtain ⟨F0, g1, g2, g3⟩ := h; rw [callN_of g1, callB100 g2 ho hd (q F0 g3) hd']
theorem Sp0.b1000 (h : Sp0 fs i [true, false, false, false] P) (ho : os[k]? = some o) (hd : notDead o = true) (q : ∀ F0, P F0 → F0.run [.ref 0, .iv b, .iv c, .iv d] [o] = .ok v [o']) (hd' : notDead o' = true) : callN fs m i [.ref k, .iv b, .iv c, .iv d] os = adopt m v (os.set k o') := by
  obtain ⟨F0, g1, g2, g3⟩ := h; rw [callN_of g1, callB1000 g2 ho hd (q F0 g3) hd']
theorem Sp0.b1 (h : Sp0 fs i [true] P) (ho : os[k]? = some o) (hd : notDead o = true) (q : ∀ F0, P F0 → F0.run [.ref 0] [o] = .ok v [o']) (hd' : notDead o' = true) : callN fs m i [.ref k] os = adopt m v (os.set k o') := by
  obtain ⟨F0, g1, g2, g3⟩ := h; rw [callN_of g1, callB1 g2 ho hd (q F0 g3) hd']
theorem Sp0.b010 (h : Sp0 fs i [false, true, false] P) (ho : os[k]? = some o) (hd : notDead o = true) (q : ∀ F0, P F0 → F0.run [.iv a, .ref 0, .iv c] [o] = .ok v [o']) (hd' : notDead o' = true) : callN fs m i [.iv a, .ref k, .iv c] os = adopt m v (os.set k o') := by
  obtain ⟨F0, g1, g2, g3⟩ := h; rw [callN_of g1, callB010 g2 ho hd (q F0 g3) hd']
end
/-! ### loops -/
section
variable {c : Env → OS → Res PV} {b : Env → OS → SR} {n : Nat} {env env' : Env} {os os1 os' : OS}
theorem whl_step (hc : c env os = .ok (.iv (.bl true)) os1) (hb : b env os1 = .nx env' os') : whlGo c b (n + 1) env os = whlGo c b n env' os' := by
  rw [whlGo, hc]; simp only [toSR_ok, hb]
theorem whl_end (hc : c env os = .ok (.iv (.bl false)) os1) : whlGo c b (n + 1) env os = .nx env os1 := by
  rw [whlGo, hc]; simp only [toSR_ok]
theorem whl_rt {v : PV} (hc : c env os = .ok (.iv (.bl true)) os1) (hb : b env os1 = .rt v os') : whlGo c b (n + 1) env os = .rt v os' := by
  rw [whlGo, hc]; simp only [toSR_ok, hb]
/-- a while whose state is told by a letter: from s to next s until it is done -/
theorem whl_run {σ : Type} (E : σ → Env) (O : σ → OS) (next : σ → Option σ) (hn : ∀ s s', next s = some s' → c (E s) (O s) = .ok (.iv (.bl true)) (O s) ∧ b (E s) (O s) = .nx (E s') (O s')) (hd : ∀ s, next s = none → c (E s) (O s) = .ok (.iv (.bl false)) (O s)) :
    ∀ (n : Nat) (s : σ) (k : Nat) (t : σ), (∃ l : List σ, l.length = k ∧ True) → k < n → (Nat.repeat (fun o : Option σ => o.bind next) k (some s) = some t) → next t = none → whlGo c b n (E s) (O s) = .nx (E t) (O t) := by
  intro n
  induction n with
  | zero => intro s k t _ h; omega
  | succ n ih =>
    intro s k t _ h e d
    cases k with
    | zero =>
      simp only [Nat.repeat, Option.some.injEq] at e
      subst e
      exact whl_end (hd _ d)
    | succ k =>
      have comm : ∀ (k : Nat) (o : Option σ), Nat.repeat (fun o : Option σ => o.bind next) (k + 1) o = Nat.repeat (fun o : Option σ => o.bind next) k (o.bind next) := by
        intro k
        induction k with
        | zero => intro o; rfl
        | succ k ihk => intro o; show (Nat.repeat _ (k + 1) o).bind next = _; rw [ihk o]; rfl
      rw [comm] at e
      have none_stays : ∀ k : Nat, Nat.repeat (fun o : Option σ => o.bind next) k none = none := by
        intro k
        induction k with
        | zero => rfl
        | succ k ihk => show (Nat.repeat _ k none).bind next = none; rw [ihk]; rfl
      cases q : next s with
      | none => simp only [Option.bind_some, q, none_stays] at e; cases e
      | some s' =>
        simp only [Option.bind_some, q] at e
        obtain ⟨h1, h2⟩ := hn s s' q
        rw [whl_step h1 h2]
        exact ih s' k t ⟨List.replicate k t, by simp, trivial⟩ (by omega) e d
end
section
variable {α : Type} {turn : IV → Env → OS → SR} {e : α → IV}
/-- a for that goes on to its end, the state told by a letter -/
theorem for_fold {σ : Type} (E : σ → Env) (O : σ → OS) (f : σ → α → σ) : ∀ (xs : List α) (s : σ), (∀ s x, x ∈ xs → turn (e x) (E s) (O s) = .nx (E (f s x)) (O (f s x)) ∨ turn (e x) (E s) (O s) = .ct (E (f s x)) (O (f s x))) → forGo turn (xs.map e) (E s) (O s) = .nx (E (xs.foldl f s)) (O (xs.foldl f s))
  | [], s, _ => rfl
  | x :: xs, s, h => by
    simp only [List.map_cons, forGo, List.foldl_cons]
    rcases h s x List.mem_cons_self with q | q
    · rw [q]; exact for_fold E O f xs _ fun s y hy => h s y (List.mem_cons_of_mem _ hy)
    · rw [q]; exact for_fold E O f xs _ fun s y hy => h s y (List.mem_cons_of_mem _ hy)
end
/-! ### comprehensions -/
theorem compGo_fm {α : Type} {turn : IV → OS → Res (Option IV)} {g : α → Option IV} {e : α → IV} {os : OS} : ∀ (xs : List α) (acc : List IV), (∀ x ∈ xs, turn (e x) os = .ok (g x) os) → acc.length + xs.length ≤ 16777216 → compGo turn (xs.map e) acc os = .ok (acc ++ xs.filterMap g) os
  | [], acc, _, _ => by simp [compGo]
  | x :: xs, acc, h, hz => by
    simp only [List.length_cons] at hz
    simp only [List.map_cons, compGo, h x List.mem_cons_self, Res.bind]
    cases q : g x with
    | none =>
      simp only
      rw [compGo_fm xs _ (fun y hy => h y (List.mem_cons_of_mem _ hy)) (by omega), List.filterMap_cons, q]
    | some y =>
      simp only
      rw [if_pos (by simp [szOk]; omega), compGo_fm xs _ (fun y hy => h y (List.mem_cons_of_mem _ hy)) (by simp; omega), List.filterMap_cons, q]
      simp
theorem compGo_m {α : Type} {turn : IV → OS → Res (Option IV)} {g : α → IV} {e : α → IV} {os : OS} (xs : List α) (h : ∀ x ∈ xs, turn (e x) os = .ok (some (g x)) os) (hz : xs.length ≤ 16777216) : compGo turn (xs.map e) [] os = .ok (xs.map g) os := by
  rw [compGo_fm (g := fun x => some (g x)) xs [] h (by simpa using hz)]
  simp [List.filterMap_eq_map']
theorem compGo_f {α : Type} {turn : IV → OS → Res (Option IV)} {p : α → Bool} {g : α → IV} {e : α → IV} {os : OS} (xs : List α) (h : ∀ x ∈ xs, turn (e x) os = .ok (if p x = true then some (g x) else none) os) (hz : xs.length ≤ 16777216) : compGo turn (xs.map e) [] os = .ok ((xs.filter p).map g) os := by
  rw [compGo_fm (g := fun x => if p x = true then some (g x) else none) xs [] h (by simpa using hz)]
  congr 1
  simp only [List.nil_append]
  clear h hz
  induction xs with
  | nil => rfl
  | cons x xs ih =>
    rw [List.filterMap_cons, List.filter_cons]
    cases q : p x <;> simp [ih]
@[simp] theorem mk_false {xs : List IV} {os : OS} : mkList false xs os = .ok (.iv (.lst xs)) os := rfl
@[simp] theorem mk_true {xs : List IV} {os : OS} : mkList true xs os = .ok (.ref os.length) (os ++ [.lst xs]) := rfl
/-! ### places -/
@[simp] theorem idx_tup {os : OS} {xs : List IV} {i : Int} : idxF (.iv (.tup xs)) (.iv (.int i)) os = .lift ((atI xs i).map .iv) os := rfl
@[simp] theorem idx_lst {os : OS} {xs : List IV} {i : Int} : idxF (.iv (.lst xs)) (.iv (.int i)) os = .lift ((atI xs i).map .iv) os := rfl
theorem idx_ref {os : OS} {k : Nat} {xs : List IV} {i : Int} (h : os[k]? = some (.lst xs)) : idxF (.ref k) (.iv (.int i)) os = .lift ((atI xs i).map .iv) os := by simp [idxF, rd, h, idxIV]
theorem atI_get {α : Type} {xs : List α} {i : Nat} (h : i < xs.length) : atI xs (i : Int) = some xs[i] := by
  simp [atI, ixN, h]
@[simp] theorem atI_zero {α : Type} {x : α} {xs : List α} : atI (x :: xs) 0 = some x := by
  have : atI (x :: xs) ((0 : Nat) : Int) = some x := by rw [atI_get (by simp)]; rfl
  exact this
@[simp] theorem atI_one {α : Type} {x y : α} {xs : List α} : atI (x :: y :: xs) 1 = some y := by
  have : atI (x :: y :: xs) ((1 : Nat) : Int) = some y := by rw [atI_get (by simp)]; rfl
  exact this
@[simp] theorem atI_two {α : Type} {x y z : α} {xs : List α} : atI (x :: y :: z :: xs) 2 = some z := by
  have : atI (x :: y :: z :: xs) ((2 : Nat) : Int) = some z := by rw [atI_get (by simp)]; rfl
  exact this
@[simp] theorem bin_add_int {os : OS} {a b : Int} : binF .Add (.iv (.int a)) (.iv (.int b)) os = .ok (.iv (.int (a + b))) os := rfl
@[simp] theorem bin_sub_int {os : OS} {a b : Int} : binF .Sub (.iv (.int a)) (.iv (.int b)) os = .ok (.iv (.int (a - b))) os := rfl
@[simp] theorem len_tup {os : OS} {xs : List IV} : biF .len [.iv (.tup xs)] os = .ok (.iv (.int xs.length)) os := rfl
@[simp] theorem len_lst {os : OS} {xs : List IV} : biF .len [.iv (.lst xs)] os = .ok (.iv (.int xs.length)) os := rfl
theorem len_ref {os : OS} {k : Nat} {xs : List IV} (h : os[k]? = some (.lst xs)) : biF .len [.ref k] os = .ok (.iv (.int xs.length)) os := by simp [biF, rdAll, rd, h, biIV]
@[simp] theorem tuple_lst {os : OS} {xs : List IV} : biF .tuple [.iv (.lst xs)] os = .ok (.iv (.tup xs)) os := rfl
@[simp] theorem int_int {os : OS} {i : Int} : biF .int [.iv (.int i)] os = .ok (.iv (.int i)) os := rfl
@[simp] theorem abs_int {os : OS} {i : Int} : biF .abs [.iv (.int i)] os = .ok (.iv (.int (if i < 0 then -i else i))) os := rfl
theorem bls_map {α : Type} {p : α → Bool} : ∀ xs : List α, blsOf (xs.map fun x => IV.bl (p x)) = some (xs.map p)
  | [] => rfl
  | x :: xs => by simp [blsOf, bls_map xs]
theorem all_bls {os : OS} {α : Type} {p : α → Bool} {xs : List α} : biF .all [.iv (.lst (xs.map fun x => IV.bl (p x)))] os = .ok (.iv (.bl (xs.all p))) os := by
  simp [biF, rdAll, rd, biIV, bls_map, List.all_map, Function.comp_def]
theorem any_bls {os : OS} {α : Type} {p : α → Bool} {xs : List α} : biF .any [.iv (.lst (xs.map fun x => IV.bl (p x)))] os = .ok (.iv (.bl (xs.any p))) os := by
  simp [biF, rdAll, rd, biIV, bls_map, List.any_map, Function.comp_def]
theorem ints_map {α : Type} {p : α → Int} : ∀ xs : List α, intsOf (xs.map fun x => IV.int (p x)) = some (xs.map p)
  | [] => rfl
  | x :: xs => by simp [intsOf, ints_map xs]
theorem sum_ints {os : OS} {α : Type} {p : α → Int} {xs : List α} : biF .sum [.iv (.lst (xs.map fun x => IV.int (p x)))] os = .ok (.iv (.int (xs.map p).sum)) os := by
  simp [biF, rdAll, rd, biIV, ints_map]
end DP

set_option Elab.async false
set_option linter.all false
set_option maxRecDepth 100000
set_option maxHeartbeats 1000000
/-! Sp1: fields, steps; what the small defs give. -/
namespace DP
open PySem L2
open En (iv da)

instance : Inhabited Nm := ⟨⟨⟨#[]⟩, by decide +kernel⟩⟩
abbrev Step := Nm × Int
structure Fd where
  names : List Nm
  pairs : List (Nm × Nm)
  deriving DecidableEq
def Fd.iv (F : Fd) : IV := .tup [.tup (F.names.map En.iv), .tup (F.pairs.map En.iv)]
def Fd.ap (F : Fd) (a b : Nm) : Bool := hasB (a, b) F.pairs || hasB (b, a) F.pairs
@[simp] theorem szOk_small {n : Nat} (h : n ≤ 16777216) : szOk n = true := by simp [szOk, h]
theorem bor_eq {fs : FS} {d : D} : (fnD fs d).bor = d.bor := rfl

theorem run_apart {fs : FS} {F : Fd} {a b : Nm} : (fnD fs d_are_apart).run [.iv F.iv, .iv (iv a), .iv (iv b)] [] = .ok (.iv (.bl (F.ap a b))) [] := by
  have e1 := cmp_in_tup (α := Nm × Nm) (os := []) (a := (a, b)) (xs := F.pairs) (by decide)
  have e2 := cmp_in_tup (α := Nm × Nm) (os := []) (a := (b, a)) (xs := F.pairs) (by decide)
  simp only [iv_pair] at e1 e2
  simp [fnD_run, d_are_apart, Fd.iv, e1, e2, Fd.ap]
theorem run_lapart {fs : FS} {F : Fd} {a b : Nm} : (fnD fs d_law_apart).run [.iv F.iv, .iv (iv a), .iv (iv b)] [] = .ok (.iv (.bl (F.ap a b))) [] := by
  have e1 := cmp_in_tup (α := Nm × Nm) (os := []) (a := (a, b)) (xs := F.pairs) (by decide)
  have e2 := cmp_in_tup (α := Nm × Nm) (os := []) (a := (b, a)) (xs := F.pairs) (by decide)
  simp only [iv_pair] at e1 e2
  simp [fnD_run, d_law_apart, Fd.iv, e1, e2, Fd.ap]
abbrev pApart (F0 : Fn) : Prop := ∀ (F : Fd) (a b : Nm), F0.run [.iv F.iv, .iv (iv a), .iv (iv b)] [] = .ok (.iv (.bl (F.ap a b))) []
abbrev Ap (fs : FS) : Prop := Sp0 fs 9 [false, false, false] pApart
theorem Ap.call {fs : FS} (h : Ap fs) {F : Fd} {a b : Nm} {os : OS} : callN fs false 9 [.iv F.iv, .iv (iv a), .iv (iv b)] os = .ok (.iv (.bl (F.ap a b))) os := by
  rw [Sp0.c3 h fun F0 p => p F a b, adopt_fiv]

/-! ### meeting -/
def nth {α : Type} [Inhabited α] (xs : List α) (k : Nat) : α := xs.getD k default
/-- one more than the place of the last of the first k steps that is not apart from a name -/
def meetN (F : Fd) (xs : List Step) (a : Nm) : Nat → Nat
  | 0 => 0
  | k + 1 => if F.ap (nth xs k).1 a = true then meetN F xs a k else k + 1
theorem meetN_le {F : Fd} {xs : List Step} {a : Nm} : ∀ k, meetN F xs a k ≤ k
  | 0 => Nat.le_refl _
  | k + 1 => by
    unfold meetN
    split
    · exact Nat.le_succ_of_le (meetN_le k)
    · exact Nat.le_refl _
theorem idx_sq {sq : List IV → IV} (hq : sq = .tup ∨ sq = .lst) {os : OS} {xs : List IV} {i : Int} : idxF (.iv (sq xs)) (.iv (.int i)) os = .lift ((atI xs i).map .iv) os := by
  rcases hq with rfl | rfl <;> rfl
theorem len_sq {sq : List IV → IV} (hq : sq = .tup ∨ sq = .lst) {os : OS} {xs : List IV} : biF .len [.iv (sq xs)] os = .ok (.iv (.int xs.length)) os := by
  rcases hq with rfl | rfl <;> rfl
theorem atI_map {α : Type} [En α] {xs : List α} {k : Nat} (h : k < xs.length) : atI (xs.map iv) (k : Int) = some (iv xs[k]) := by
  rw [atI_get (by simpa using h)]
  simp
theorem getD_of {α : Type} [Inhabited α] {xs : List α} {k : Nat} (h : k < xs.length) : nth xs k = xs[k] := by simp [nth, h]
@[simp] theorem iv_fst {α β : Type} [En α] [En β] {p : α × β} {os : OS} : idxF (.iv (iv p)) (.iv (.int 0)) os = .ok (.iv (iv p.1)) os := by rw [iv_pair]; simp
@[simp] theorem iv_snd {α β : Type} [En α] [En β] {p : α × β} {os : OS} : idxF (.iv (iv p)) (.iv (.int 1)) os = .ok (.iv (iv p.2)) os := by rw [iv_pair]; simp
abbrev pMeeting (F0 : Fn) : Prop := ∀ (F : Fd) (xs : List Step) (a : Nm) (sq : List IV → IV), (sq = .tup ∨ sq = .lst) → xs.length < 900000 → F0.run [.iv F.iv, .iv (sq (xs.map iv)), .iv (iv a)] [] = .ok (.iv (.int ((meetN F xs a xs.length : Nat) - 1))) []
theorem run_meeting {fs : FS} (h : Ap fs) : pMeeting (fnD fs d_meeting) := by
  intro F xs a sq hq hl
  have loop : ∀ (k n : Nat), k ≤ xs.length → k < n → whlGo (denE fs (.and (.cmp .GtE (.v 3) (.c (.int 0))) (.call false 9 [.v 0, .idx (.idx (.v 1) (.v 3)) (.c (.int 0)), .v 2]))) (denSs fs [.aug 3 .Sub (.c (.int 1))]) n
      [some (.iv F.iv), some (.iv (sq (xs.map iv))), some (.iv (iv a)), some (.iv (.int ((k : Int) - 1)))] [] = .nx [some (.iv F.iv), some (.iv (sq (xs.map iv))), some (.iv (iv a)), some (.iv (.int ((meetN F xs a k : Nat) - 1)))] [] := by
    intro k
    induction k with
    | zero =>
      intro n _ hn
      obtain ⟨n, rfl⟩ : ∃ j, n = j + 1 := ⟨n - 1, by omega⟩
      rw [whl_end (os1 := []) (by simp)]
      simp [meetN]
    | succ k ih =>
      intro n hk hn
      obtain ⟨n, rfl⟩ : ∃ j, n = j + 1 := ⟨n - 1, by omega⟩
      have hk' : k < xs.length := by omega
      have e1 : ((k + 1 : Nat) : Int) - 1 = (k : Int) := by omega
      rw [e1]
      have cd : denE fs (.and (.cmp .GtE (.v 3) (.c (.int 0))) (.call false 9 [.v 0, .idx (.idx (.v 1) (.v 3)) (.c (.int 0)), .v 2])) [some (.iv F.iv), some (.iv (sq (xs.map iv))), some (.iv (iv a)), some (.iv (.int (k : Int)))] [] = .ok (.iv (.bl (F.ap xs[k].1 a))) [] := by
        simp [idx_sq hq, atI_map hk', h.call]
      cases q : F.ap xs[k].1 a with
      | true =>
        rw [q] at cd
        rw [whl_step (env' := [some (.iv F.iv), some (.iv (sq (xs.map iv))), some (.iv (iv a)), some (.iv (.int ((k : Int) - 1)))]) (os' := []) cd (by simp [augS, augIV])]
        rw [ih n (by omega) (by omega)]
        simp only [meetN, getD_of hk', q, if_true]
      | false =>
        rw [q] at cd
        rw [whl_end cd]
        simp only [meetN, getD_of hk', q, e1, Bool.false_eq_true, if_false]
  have e := loop xs.length WF (Nat.le_refl _) (by unfold WF; omega)
  simp [fnD_run, d_meeting, len_sq hq, asgP, e]
section
variable {α β : Type} [En α] [En β] {p : α × β} {i j : Nat} {env : Env} {v : PV} {x : IV}
@[simp] theorem asgT_pair : asgT (.t [.n i, .n j]) (iv p) env = if i < env.length then (if j < env.length then some ((env.set i (some (.iv (iv p.1)))).set j (some (.iv (iv p.2)))) else none) else none := by
  rw [iv_pair]
  simp only [asgT, asgTs]
  by_cases h : i < env.length
  · by_cases h2 : j < env.length
    · simp [h, h2]
    · simp [h, h2]
  · simp [h]
@[simp] theorem asgP_pair : asgP (.t [.n i, .n j]) (.iv (iv p)) env = if i < env.length then (if j < env.length then some ((env.set i (some (.iv (iv p.1)))).set j (some (.iv (iv p.2)))) else none) else none := asgT_pair
@[simp] theorem asgP_n : asgP (.n i) v env = if i < env.length then some (env.set i (some v)) else none := rfl
@[simp] theorem asgT_n : asgT (.n i) x env = if i < env.length then some (env.set i (some (.iv x))) else none := by simp only [asgT]
end
/-! ### push, piled -/
def pushL (F : Fd) (xs : List Step) (s : Step) : List Step :=
  if meetN F xs s.1 xs.length = 0 ∨ (nth xs (meetN F xs s.1 xs.length - 1)).1 ≠ s.1 then xs ++ [s]
  else if (nth xs (meetN F xs s.1 xs.length - 1)).2 + s.2 = 0 then xs.eraseIdx (meetN F xs s.1 xs.length - 1)
  else xs.set (meetN F xs s.1 xs.length - 1) (s.1, (nth xs (meetN F xs s.1 xs.length - 1)).2 + s.2)
abbrev pPush (F0 : Fn) : Prop := ∀ (F : Fd) (xs : List Step) (s : Step), xs.length < 900000 → F0.run [.iv F.iv, .ref 0, .iv (iv s)] [.lst (xs.map iv)] = .ok (.iv .non) [.lst ((pushL F xs s).map iv)]
theorem map_eraseIdx {α β : Type} {f : α → β} : ∀ {xs : List α} {i : Nat}, (xs.map f).eraseIdx i = (xs.eraseIdx i).map f
  | [], _ => by simp
  | x :: xs, 0 => by simp
  | x :: xs, i + 1 => by simp [map_eraseIdx (xs := xs) (i := i)]
theorem run_push {fs : FS} (h : Sp0 fs 10 [false, false, false] pMeeting) : pPush (fnD fs d_push) := by
  intro F xs s hl
  have e0 : callN fs false 10 [.iv F.iv, .ref 0, .iv (iv s.1)] [.lst (xs.map iv)] = .ok (.iv (.int ((meetN F xs s.1 xs.length : Nat) - 1))) [.lst (xs.map iv)] := by
    rw [Sp0.r3 (a := F.iv) (b := .lst (xs.map iv)) (c := iv s.1) (v := .iv (.int ((meetN F xs s.1 xs.length : Nat) - 1))) h rfl rfl rfl (fun F0 p => p F xs s.1 .lst (.inr rfl) hl) rfl, adopt_fiv]
  have hp := meetN_le (F := F) (xs := xs) (a := s.1) xs.length
  obtain ⟨p, hpe⟩ : ∃ p, p = meetN F xs s.1 xs.length := ⟨_, rfl⟩
  rw [← hpe] at e0 hp
  have sz : xs.length ≤ 16777215 := by omega
  unfold pushL
  rw [← hpe]
  by_cases h0 : p = 0
  · subst h0
    simp [fnD_run, d_push, e0, isL, appF, szOk, sz]
  · have hk : p - 1 < xs.length := by omega
    have e1 : ((p : Int) - 1) = ((p - 1 : Nat) : Int) := by omega
    rw [getD_of hk]
    rw [e1] at e0
    have n1 : ¬ (((p - 1 : Nat) : Int) < 0) := by omega
    have e2 : idxF (.ref 0) (.iv (.int ((p - 1 : Nat) : Int))) [.lst (xs.map iv)] = .ok (.iv (iv xs[p - 1])) [.lst (xs.map iv)] := by
      rw [idx_ref (xs := xs.map iv) rfl, atI_map hk]; rfl
    have e3 : cmpPV [.lst (xs.map iv)] .NotEq (.iv (iv xs[p - 1].1)) (.iv (iv s.1)) = some (!decide (xs[p - 1].1 = s.1)) := cmp_ne (by decide)
    by_cases h1 : xs[p - 1].1 = s.1
    · rw [h1] at e3
      have ix : ixN xs.length ((p - 1 : Nat) : Int) = some (p - 1) := ixN_pos (by omega) (by simpa using hk)
      by_cases h2 : xs[p - 1].2 + s.2 = 0
      · simp [fnD_run, d_push, e0, e2, e3, h0, h1, h2, n1, iv_int, isL, popAtF, ix, szOk, show xs.length ≤ 16777216 by omega, List.getElem?_eq_getElem hk, map_eraseIdx]
      · simp [fnD_run, d_push, e0, e2, e3, h0, h1, h2, n1, iv_int, isL, subS, setF, ix, szOk]
        rfl
    · simp [fnD_run, d_push, e0, e2, e3, h0, h1, n1, isL, appF, szOk, sz]
theorem pushL_len {F : Fd} {xs : List Step} {s : Step} : (pushL F xs s).length ≤ xs.length + 1 := by
  unfold pushL
  split
  · simp
  · split
    · have := List.length_eraseIdx_le xs (meetN F xs s.1 xs.length - 1)
      omega
    · simp
def pileL (F : Fd) (xs : List Step) : List Step := xs.foldl (pushL F) []
theorem foldl_len {F : Fd} : ∀ (xs acc : List Step), (xs.foldl (pushL F) acc).length ≤ acc.length + xs.length
  | [], acc => by simp
  | x :: xs, acc => by
    have h1 := foldl_len (F := F) xs (pushL F acc x)
    have h2 := pushL_len (F := F) (xs := acc) (s := x)
    simp only [List.foldl_cons, List.length_cons]
    omega
theorem pileL_len {F : Fd} {xs : List Step} : (pileL F xs).length ≤ xs.length := by
  have := foldl_len (F := F) xs []
  simpa [pileL] using this
theorem it_sq {sq : List IV → IV} (hq : sq = .tup ∨ sq = .lst) {xs : List IV} : itIV (sq xs) = some xs := by
  rcases hq with rfl | rfl <;> rfl
abbrev pPiled (F0 : Fn) : Prop := ∀ (F : Fd) (xs : List Step) (sq : List IV → IV), (sq = .tup ∨ sq = .lst) → xs.length < 900000 → F0.run [.iv F.iv, .iv (sq (xs.map iv))] [] = .ok (.ob (.lst ((pileL F xs).map iv))) []
theorem for_fold' {α σ : Type} {turn : IV → Env → OS → SR} {e : α → IV} (E : σ → Env) (O : σ → OS) (f : σ → α → σ) (I : σ → List α → Prop) (hI : ∀ s x xs, I s (x :: xs) → I (f s x) xs ∧ turn (e x) (E s) (O s) = .nx (E (f s x)) (O (f s x))) : ∀ (xs : List α) (s : σ), I s xs → forGo turn (xs.map e) (E s) (O s) = .nx (E (xs.foldl f s)) (O (xs.foldl f s))
  | [], s, _ => rfl
  | x :: xs, s, h => by
    obtain ⟨h1, h2⟩ := hI s x xs h
    simp only [List.map_cons, forGo, List.foldl_cons, h2]
    exact for_fold' E O f I hI xs _ h1
theorem run_piled {fs : FS} (h : Sp0 fs 11 [false, true, false] pPush) : pPiled (fnD fs d_piled) := by
  intro F xs sq hq hl
  have loop := for_fold' (turn := turnF fs (.n 3) [.ex (.call false 11 [.v 0, .v 2, .v 3])]) (e := fun s : Step => iv s) (fun p : List Step × Option Step => [some (.iv F.iv), some (.iv (sq (xs.map iv))), some (.ref 0), p.2.map fun s => .iv (iv s)]) (fun p => [.lst (p.1.map iv)]) (fun p s => (pushL F p.1 s, some s)) (fun p l => p.1.length + l.length < 900000)
    (fun p s l hi => by
      simp only [List.length_cons] at hi
      have := pushL_len (F := F) (xs := p.1) (s := s)
      refine ⟨by simp only; omega, ?_⟩
      have c : callN fs false 11 [.iv F.iv, .ref 0, .iv (iv s)] [.lst (p.1.map iv)] = .ok (.iv .non) [.lst ((pushL F p.1 s).map iv)] := by
        rw [Sp0.b010 (o := .lst (p.1.map iv)) (o' := .lst ((pushL F p.1 s).map iv)) (v := .iv .non) h rfl rfl (fun F0 q => q F p.1 s (by omega)) rfl, adopt_fiv]; rfl
      simp [turnF, c]) xs ([], none) (by simpa using hl)
  have hst : ∀ (xs : List Step) (p : List Step × Option Step), (xs.foldl (fun p s => (pushL F p.1 s, some s)) p).1 = xs.foldl (pushL F) p.1 := by
    intro xs
    induction xs with
    | nil => intro p; rfl
    | cons x xs ih => intro p; simp only [List.foldl_cons]; rw [ih]
  simp only [Option.map_none, List.map_nil] at loop
  simp [fnD_run, d_piled, it_sq hq, szOk, loop, hst, finish, notDead, pileL]
end DP

set_option Elab.async false
set_option linter.all false
set_option maxRecDepth 100000
set_option maxHeartbeats 1000000
/-! Sp2: first_places, arranged, least_in, back_of, length_in. -/
namespace DP
open PySem L2
open En (iv da)

def firstsL (F : Fd) : List Step → List Nm → Nat → List Nat
  | [], _, _ => []
  | s :: r, still, k => (if hasB s.1 still = true then [k] else []) ++ (if still.filter (fun n => F.ap n s.1) = [] then [] else firstsL F r (still.filter fun n => F.ap n s.1) (k + 1))
theorem ivn_nat (k : Nat) : (IV.int (k : Int)) = iv (k : Int) := rfl
abbrev pFirsts (F0 : Fn) : Prop := ∀ (F : Fd) (xs : List Step) (sq : List IV → IV), (sq = .tup ∨ sq = .lst) → F.names.length ≤ 100 → xs.length < 900000 → F0.run [.iv F.iv, .iv (sq (xs.map iv))] [] = .ok (.ob (.lst ((firstsL F xs F.names 0).map fun k : Nat => IV.int (k : Int)))) []
theorem en_sq {sq : List IV → IV} (hq : sq = .tup ∨ sq = .lst) {xs : List IV} : enIV (sq xs) = some xs := by
  rcases hq with rfl | rfl <;> rfl
theorem run_firsts {fs : FS} (h : Ap fs) : pFirsts (fnD fs d_first_places) := by
  intro F xs sq hq hn hl
  have loop : ∀ (ys : List Step) (still : List Nm) (k : Nat) (acc : List IV) (p st : Option PV), still.length ≤ 100 → acc.length + ys.length < 900000 → ∃ a b c, forGo (turnF fs (.t [.n 4, .n 5]) [.ife (.cmp .In (.idx (.v 5) (.c (.int 0))) (.v 3)) [.ex (.app (.v 2) (.v 4))] [],
      .asg (.n 3) (.lc false [6] (.n 6) (.it (.v 3)) [.call false 9 [.v 0, .v 6, .idx (.v 5) (.c (.int 0))]] (.v 6)), .ife (.cmp .Eq (.v 3) (.lst false [])) [.brk] []]) (enumL k (ys.map iv))
      [some (.iv F.iv), some (.iv (sq (xs.map iv))), some (.ref 0), some (.iv (.lst (still.map iv))), p, st, none] [.lst acc] = .nx [some (.iv F.iv), some (.iv (sq (xs.map iv))), some (.ref 0), a, b, c, none] [.lst (acc ++ (firstsL F ys still k).map fun k : Nat => IV.int (k : Int))] := by
    intro ys
    induction ys with
    | nil => intro still k acc p st _ _; exact ⟨some (.iv (.lst (still.map iv))), p, st, by simp [enumL, forGo, firstsL]⟩
    | cons s r ih =>
      intro still k acc p st hs ha
      simp only [List.length_cons] at ha
      have e1 : ∀ os, cmpPV os .In (.iv (iv s.1)) (.iv (.lst (still.map iv))) = some (hasB s.1 still) := fun os => cmp_in_lst (by decide)
      have e2 : ∀ os, cmpPV os .Eq (.iv (.lst ((still.filter fun n => F.ap n s.1).map iv))) (.iv (.lst [])) = some (decide (still.filter (fun n => F.ap n s.1) = [])) := fun os => cmp_eq_lst (ys := []) (by decide)
      have e3 : ∀ os, compGo (compStep [6] (.n 6) (wipeE [some (.iv F.iv), some (.iv (sq (xs.map iv))), some (.ref 0), some (.iv (.lst (still.map iv))), some (.iv (.int k)), some (.iv (iv s)), none] [6]) (denTs fs [.call false 9 [.v 0, .v 6, .idx (.v 5) (.c (.int 0))]]) (denE fs (.v 6))) (still.map iv) [] os = .ok ((still.filter fun n => F.ap n s.1).map iv) os := by
        intro os
        refine compGo_f still (fun n _ => ?_) (by omega)
        cases q : F.ap n s.1 <;> simp [compStep, wipeE, h.call, q]
      have et : ∀ env, asgT (.t [.n 4, .n 5]) (.tup [.int k, iv s]) env = asgT (.t [.n 4, .n 5]) (iv ((k : Int), s)) env := fun _ => rfl
      have sz : acc.length ≤ 16777215 := by omega
      have hst : (still.filter fun n => F.ap n s.1).length ≤ 100 := Nat.le_trans (List.length_filter_le _ _) hs
      have turn : turnF fs (.t [.n 4, .n 5]) [.ife (.cmp .In (.idx (.v 5) (.c (.int 0))) (.v 3)) [.ex (.app (.v 2) (.v 4))] [],
          .asg (.n 3) (.lc false [6] (.n 6) (.it (.v 3)) [.call false 9 [.v 0, .v 6, .idx (.v 5) (.c (.int 0))]] (.v 6)), .ife (.cmp .Eq (.v 3) (.lst false [])) [.brk] []] (.tup [.int k, iv s])
          [some (.iv F.iv), some (.iv (sq (xs.map iv))), some (.ref 0), some (.iv (.lst (still.map iv))), p, st, none] [.lst acc] =
          (if still.filter (fun n => F.ap n s.1) = [] then SR.bk else SR.nx) [some (.iv F.iv), some (.iv (sq (xs.map iv))), some (.ref 0), some (.iv (.lst ((still.filter fun n => F.ap n s.1).map iv))), some (.iv (.int k)), some (.iv (iv s)), none] [.lst (acc ++ if hasB s.1 still = true then [.int k] else [])] := by
        cases q : hasB s.1 still <;> by_cases q2 : still.filter (fun n => F.ap n s.1) = [] <;> simp [turnF, et, e1, q, isL, appF, szOk, sz, itIV, e3, e2, q2, iv_int]
      simp only [List.map_cons, enumL, forGo, turn]
      by_cases q2 : still.filter (fun n => F.ap n s.1) = []
      · simp only [q2, if_true, firstsL, List.append_nil]
        refine ⟨some (.iv (.lst [])), some (.iv (.int k)), some (.iv (iv s)), ?_⟩
        cases q : hasB s.1 still <;> simp
      · simp only [q2, if_false, firstsL]
        obtain ⟨a, b, c, e⟩ := ih (still.filter fun n => F.ap n s.1) (k + 1) (acc ++ if hasB s.1 still = true then [.int k] else []) _ _ hst (by
          cases q : hasB s.1 still <;> simp <;> omega)
        refine ⟨a, b, c, ?_⟩
        rw [e]
        cases q : hasB s.1 still <;> simp
  obtain ⟨a, b, c, e⟩ := loop xs F.names 0 [] none none hn (by simpa using hl)
  simp [fnD_run, d_first_places, szOk, Fd.iv, lstOfF, rd, seqIV, setAll, en_sq hq] 
  simp only [Fd.iv, List.nil_append] at e
  simp [e, finish, notDead]
end DP

set_option Elab.async false
set_option linter.all false
set_option maxRecDepth 100000
set_option maxHeartbeats 1000000
/-! Sp3: arranged, least_in, back_of, length_in. -/
namespace DP
open PySem L2
open En (iv da)

/-! ### the least of pairs of a name and a place -/
def ltP (p q : Nm × Int) : Bool := decide (p.1 < q.1) || (decide (p.1 = q.1) && decide (p.2 < q.2))
theorem dataLt_nm (a b : Nm) : PySem.W.dataLt (da a) (da b) = decide (a < b) := by
  show PySem.W.dataLt (.str a.s) (.str b.s) = _
  rw [PySem.W.dataLt_str]
  rfl
theorem nm_irrefl (a : Nm) : ¬ a < a := by
  show ¬ a.key < a.key
  exact List.lt_irrefl _
theorem dataLt_p (p q : Nm × Int) : PySem.W.dataLt (da p) (da q) = ltP p q := by
  show PySem.W.dataLt (.tuple [da p.1, da p.2]) (.tuple [da q.1, da q.2]) = _
  rw [PySem.W.dataLt_pair rfl rfl, En.eqv_dec, En.eqv_dec, dataLt_nm]
  have h2 : PySem.W.dataLt (da p.2) (da q.2) = decide (p.2 < q.2) := PySem.W.dataLt_int _ _
  rw [h2]
  unfold ltP
  by_cases h : p.1 = q.1
  · have : ¬ q.1 < q.1 := nm_irrefl _
    by_cases h3 : p.2 = q.2
    · simp [h, h3, this]
    · simp [h, h3, this]
  · simp [h]
def minL : List (Nm × Int) → Nm × Int
  | [] => default
  | p :: r => r.foldl (fun a y => if ltP y a = true then y else a) p
theorem alike_p (ps : List (Nm × Int)) : alikeAllB (ps.map da) = true := by
  simp only [alikeAllB, List.all_eq_true, List.mem_map, Bool.and_eq_true]
  rintro _ ⟨p, _, rfl⟩
  exact ⟨⟨rfl, sh_of (by decide)⟩, by rintro _ ⟨q, _, rfl⟩; rfl⟩
theorem min_p (ps : List (Nm × Int)) (h : ps ≠ []) : minIV (ps.map iv) = some (iv (minL ps)) := by
  cases ps with
  | nil => exact absurd rfl h
  | cons p r =>
    have ha := alike_p (p :: r)
    simp only [List.map_cons] at ha
    have e := toDs_map (p :: r)
    simp only [List.map_cons] at e
    simp only [minIV, List.map_cons, e, Option.bind_some, ha, if_true]
    have key : ∀ (r : List (Nm × Int)) (p : Nm × Int), PySem.W.minD (da p) (r.map da) = da (r.foldl (fun a y => if ltP y a = true then y else a) p) := by
      intro r
      induction r with
      | nil => intro p; rfl
      | cons y r ih =>
        intro p
        show PySem.W.minD (if PySem.W.dataLt (da y) (da p) = true then da y else da p) (r.map da) = _
        rw [dataLt_p, List.foldl_cons]
        cases q : ltP y p
        · simpa using ih p
        · simpa using ih y
    rw [key, En.back]
    rfl
theorem minL_mem : ∀ (ps : List (Nm × Int)), ps ≠ [] → minL ps ∈ ps
  | [], h => absurd rfl h
  | p :: r, _ => by
    have key : ∀ (r : List (Nm × Int)) (p : Nm × Int), r.foldl (fun a y => if ltP y a = true then y else a) p ∈ p :: r := by
      intro r
      induction r with
      | nil => intro p; simp
      | cons y r ih =>
        intro p
        rw [List.foldl_cons]
        have := ih (if ltP y p = true then y else p)
        cases q : ltP y p
        · simp only [q] at this ⊢
          rcases List.mem_cons.mp this with z | z
          · simp_all
          · exact List.mem_cons_of_mem _ (List.mem_cons_of_mem _ z)
        · simp only [q, if_true] at this ⊢
          exact List.mem_cons_of_mem _ this
    exact key r p
/-! ### arranged -/
def keysL (F : Fd) (xs : List Step) : List (Nm × Int) := (firstsL F xs F.names 0).map fun k => ((nth xs k).1, (k : Int))
def pickL (F : Fd) (xs : List Step) : Nat := (minL (keysL F xs)).2.toNat
def arrL (F : Fd) : Nat → List Step → List Step
  | 0, _ => []
  | n + 1, xs => if xs = [] then [] else nth xs (pickL F xs) :: arrL F n (xs.eraseIdx (pickL F xs))
theorem firstsL_lt {F : Fd} : ∀ {xs : List Step} {still : List Nm} {k i : Nat}, i ∈ firstsL F xs still k → k ≤ i ∧ i < k + xs.length
  | [], _, _, _, h => by simp [firstsL] at h
  | s :: r, still, k, i, h => by
    simp only [firstsL, List.mem_append] at h
    rcases h with h | h
    · split at h
      · simp at h; subst h; simp
      · simp at h
    · split at h
      · simp at h
      · have := firstsL_lt h
        simp only [List.length_cons]
        omega
def InF (F : Fd) (xs : List Step) : Prop := ∀ s ∈ xs, s.1 ∈ F.names
theorem keysL_ne {F : Fd} {xs : List Step} (h : xs ≠ []) (hi : InF F xs) : keysL F xs ≠ [] := by
  cases xs with
  | nil => exact absurd rfl h
  | cons s r =>
    have : hasB s.1 F.names = true := hasB_iff.mpr (hi s List.mem_cons_self)
    simp [keysL, firstsL, this]
theorem pickL_spec {F : Fd} {xs : List Step} (h : xs ≠ []) (hi : InF F xs) : pickL F xs < xs.length ∧ (minL (keysL F xs)).2 = (pickL F xs : Int) := by
  have m := minL_mem _ (keysL_ne h hi)
  simp only [keysL, List.mem_map] at m
  obtain ⟨k, hk, e⟩ := m
  have := firstsL_lt hk
  have e2 : (minL (keysL F xs)).2 = (k : Int) := by unfold keysL; rw [← e]
  have e3 : pickL F xs = k := by unfold pickL; rw [e2]; simp
  rw [e3]
  exact ⟨by omega, e2⟩
abbrev pArranged (F0 : Fn) : Prop := ∀ (F : Fd) (xs : List Step) (sq : List IV → IV), (sq = .tup ∨ sq = .lst) → F.names.length ≤ 100 → xs.length < 900000 → InF F xs → F0.run [.iv F.iv, .iv (sq (xs.map iv))] [] = .ok (.iv (.tup ((arrL F xs.length xs).map iv))) []
theorem noLs_ints {α : Type} {f : α → Int} : ∀ xs : List α, noLs (xs.map fun k => IV.int (f k)) = true
  | [] => rfl
  | x :: xs => by simp [noLs, noL, noLs_ints xs]
theorem seq_sq {sq : List IV → IV} (hq : sq = .tup ∨ sq = .lst) {xs : List IV} : seqIV (sq xs) = some xs := by
  rcases hq with rfl | rfl <;> rfl
theorem cmp_ne_nil {os : OS} {k : Nat} {xs : List Step} (h : os[k]? = some (.lst (xs.map iv))) : cmpPV os .NotEq (.ref k) (.iv (.lst [])) = some (!decide (xs = [])) := by
  have := cmp_ne (α := Li Step) (os := os) (a := ⟨xs⟩) (b := ⟨[]⟩) (by decide)
  simp only [iv_li, List.map_nil, Li.mk.injEq] at this
  rw [← this]
  simp [cmpPV, rd, h]
theorem InF.erase {F : Fd} {xs : List Step} {k : Nat} (h : InF F xs) : InF F (xs.eraseIdx k) := fun s hs => h s (List.mem_of_mem_eraseIdx hs)
theorem run_arranged {fs : FS} (h : Sp0 fs 12 [false, false] pFirsts) : pArranged (fnD fs d_arranged) := by
  intro F xs sq hq hn hl hi
  have loop : ∀ (n : Nat) (ys : List Step) (acc : List Step) (m : Nat) (p : Option PV), ys.length = n → n < m → acc.length + n < 900000 → InF F ys → ∃ q, whlGo (denE fs (.cmp .NotEq (.v 2) (.lst false []))) (denSs fs [.asg (.n 4) (.idx (.bi .min [.lc false [4] (.n 4) (.it (.call false 12 [.v 0, .v 2])) [] (.tup [.idx (.idx (.v 2) (.v 4)) (.c (.int 0)), .v 4])]) (.c (.int 1))),
      .ex (.app (.v 3) (.popAt (.v 2) (.v 4)))]) m [some (.iv F.iv), some (.iv (sq (xs.map iv))), some (.ref 0), some (.ref 1), p] [.lst (ys.map iv), .lst (acc.map iv)] = .nx [some (.iv F.iv), some (.iv (sq (xs.map iv))), some (.ref 0), some (.ref 1), q] [.lst [], .lst ((acc ++ arrL F n ys).map iv)] := by
    intro n
    induction n with
    | zero =>
      intro ys acc m p hy hm _ _
      obtain ⟨m, rfl⟩ : ∃ j, m = j + 1 := ⟨m - 1, by omega⟩
      have : ys = [] := List.length_eq_zero_iff.mp hy
      subst this
      refine ⟨p, ?_⟩
      have c : cmpPV [.lst [], .lst (acc.map iv)] .NotEq (.ref 0) (.iv (.lst [])) = some false := cmp_ne_nil (xs := []) rfl
      rw [whl_end (os1 := [.lst [], .lst (acc.map iv)]) (by simp [szOk, c])]
      simp [arrL]
    | succ n ih =>
      intro ys acc m p hy hm ha hiy
      obtain ⟨m, rfl⟩ : ∃ j, m = j + 1 := ⟨m - 1, by omega⟩
      have hne : ys ≠ [] := fun z => by rw [z] at hy; simp at hy
      obtain ⟨hk, hp⟩ := pickL_spec hne hiy
      have c : cmpPV [.lst (ys.map iv), .lst (acc.map iv)] .NotEq (.ref 0) (.iv (.lst [])) = some true := by rw [cmp_ne_nil (xs := ys) rfl]; simp [hne]
      have cf : callN fs false 12 [.iv F.iv, .ref 0] [.lst (ys.map iv), .lst (acc.map iv)] = .ok (.iv (.lst ((firstsL F ys F.names 0).map fun k : Nat => IV.int (k : Int)))) [.lst (ys.map iv), .lst (acc.map iv)] := by
        rw [Sp0.r2 (a := F.iv) (b := .lst (ys.map iv)) (v := .ob (.lst ((firstsL F ys F.names 0).map fun k : Nat => IV.int (k : Int)))) h rfl rfl (fun F0 q => q F ys .lst (.inr rfl) hn (by omega)) (noLs_ints _), adopt_fob]
      have cc : compGo (compStep [4] (.n 4) (wipeE [some (.iv F.iv), some (.iv (sq (xs.map iv))), some (.ref 0), some (.ref 1), p] [4]) (denTs fs []) (denE fs (.tup [.idx (.idx (.v 2) (.v 4)) (.c (.int 0)), .v 4]))) ((firstsL F ys F.names 0).map fun k : Nat => IV.int (k : Int)) [] [.lst (ys.map iv), .lst (acc.map iv)] = .ok ((keysL F ys).map iv) [.lst (ys.map iv), .lst (acc.map iv)] := by
        rw [compGo_m (g := fun k : Nat => iv ((nth ys k).1, (k : Int)))]
        · simp [keysL, List.map_map, Function.comp_def]
        · intro k hk
          have := firstsL_lt hk
          have hk' : k < ys.length := by omega
          simp [compStep, wipeE, idx_ref (os := [.lst (ys.map iv), .lst (acc.map iv)]) (k := 0) (xs := ys.map iv) rfl, atI_map hk', szOk, getD_of hk']
          rfl
        · have : (firstsL F ys F.names 0).length ≤ ys.length := by
            have key : ∀ (zs : List Step) (st : List Nm) (k : Nat), (firstsL F zs st k).length ≤ zs.length := by
              intro zs
              induction zs with
              | nil => intro st k; simp [firstsL]
              | cons z zs ihz =>
                intro st k
                have := ihz (st.filter fun n => F.ap n z.1) (k + 1)
                simp only [firstsL, List.length_append, List.length_cons]
                split <;> split <;> simp <;> omega
            exact key _ _ _
          omega
      have cm : biF .min [.iv (.lst ((keysL F ys).map iv))] [.lst (ys.map iv), .lst (acc.map iv)] = .ok (.iv (iv (minL (keysL F ys)))) [.lst (ys.map iv), .lst (acc.map iv)] := by
        simp only [biF, rdAll, rd, Option.bind_some, Option.map_some, biIV, min_p _ (keysL_ne hne hiy), lift_some]
      have ix : ixN ys.length (pickL F ys : Int) = some (pickL F ys) := ixN_pos (by omega) (by simpa using hk)
      have sz : acc.length ≤ 16777215 := by omega
      have sy : ys.length ≤ 16777216 := by omega
      obtain ⟨q, e⟩ := ih (ys.eraseIdx (pickL F ys)) (acc ++ [ys[pickL F ys]]) m (some (.iv (.int (pickL F ys)))) (by rw [List.length_eraseIdx_of_lt hk]; omega) (by omega) (by simp; omega) hiy.erase
      refine ⟨q, ?_⟩
      rw [whl_step (os1 := [.lst (ys.map iv), .lst (acc.map iv)]) (env' := [some (.iv F.iv), some (.iv (sq (xs.map iv))), some (.ref 0), some (.ref 1), some (.iv (.int (pickL F ys)))]) (os' := [.lst ((ys.eraseIdx (pickL F ys)).map iv), .lst ((acc ++ [ys[pickL F ys]]).map iv)]) (by simp [szOk, c]) ?_, e]
      · simp [arrL, hne, getD_of hk]
      · simp [cf, itIV, cc, cm, iv_int, hp, isL, popAtF, ix, szOk, sy, List.getElem?_eq_getElem hk, appF, sz, map_eraseIdx]
  obtain ⟨q, e⟩ := loop xs.length xs [] WF none rfl (by unfold WF; omega) (by simpa using hl) hi
  simp only [List.map_nil, List.nil_append] at e
  simp [fnD_run, d_arranged, lstOfF, rd, seq_sq hq, szOk, setAll, e, biF, rdAll, biIV]
end DP

set_option Elab.async false
set_option linter.all false
set_option maxRecDepth 100000
set_option maxHeartbeats 1000000
/-! Sp4: least_in, back_of, length_in; fields and scripts that are right. -/
namespace DP
open PySem L2
open En (iv da)

def leastL (F : Fd) (xs : List Step) : List Step := arrL F (pileL F xs).length (pileL F xs)
theorem pushL_mem {F : Fd} {xs : List Step} {s x : Step} (h : x ∈ pushL F xs s) : x ∈ xs ∨ x.1 = s.1 := by
  unfold pushL at h
  split at h
  · simp at h
    rcases h with h | h
    · exact .inl h
    · exact .inr (by rw [h])
  · split at h
    · exact .inl (List.mem_of_mem_eraseIdx h)
    · rcases List.mem_or_eq_of_mem_set h with q | q
      · exact .inl q
      · exact .inr (by rw [q])
theorem InF.push {F : Fd} {xs : List Step} {s : Step} (h : InF F xs) (hs : s.1 ∈ F.names) : InF F (pushL F xs s) := fun x hx => by
  rcases pushL_mem hx with q | q
  · exact h x q
  · rw [q]; exact hs
theorem InF.pile {F : Fd} {xs : List Step} (h : InF F xs) : InF F (pileL F xs) := by
  have key : ∀ (xs acc : List Step), InF F acc → InF F xs → InF F (xs.foldl (pushL F) acc) := by
    intro xs
    induction xs with
    | nil => intro acc h _; exact h
    | cons x xs ih => intro acc h hx; exact ih _ (h.push (hx x List.mem_cons_self)) fun y hy => hx y (List.mem_cons_of_mem _ hy)
  exact key xs [] (fun s hs => by cases hs) h
/-- a field that the defs can take: not too many names -/
def Fd.few (F : Fd) : Prop := F.names.length ≤ 100
abbrev pLeast (F0 : Fn) : Prop := ∀ (F : Fd) (xs : List Step) (sq : List IV → IV), (sq = .tup ∨ sq = .lst) → F.names.length ≤ 100 → xs.length < 900000 → InF F xs → F0.run [.iv F.iv, .iv (sq (xs.map iv))] [] = .ok (.iv (.tup ((leastL F xs).map iv))) []
theorem run_least {fs : FS} (h1 : Sp0 fs 13 [false, false] pArranged) (h2 : Sp0 fs 14 [false, false] pPiled) : pLeast (fnD fs d_least_in) := by
  intro F xs sq hq hn hl hi
  have c2 : callN fs false 14 [.iv F.iv, .iv (sq (xs.map iv))] [] = .ok (.iv (.lst ((pileL F xs).map iv))) [] := by
    rw [Sp0.c2 h2 fun F0 q => q F xs sq hq hl, adopt_fob]
  have c1 : callN fs false 13 [.iv F.iv, .iv (.lst ((pileL F xs).map iv))] [] = .ok (.iv (.tup ((leastL F xs).map iv))) [] := by
    have := pileL_len (F := F) (xs := xs)
    rw [Sp0.c2 h1 fun F0 q => q F (pileL F xs) .lst (.inr rfl) hn (by omega) hi.pile, adopt_fiv]; rfl
  simp [fnD_run, d_least_in, c2, c1]
def backL (xs : List Step) : List Step := xs.reverse.map fun s => (s.1, -s.2)
theorem rev_sq {sq : List IV → IV} (hq : sq = .tup ∨ sq = .lst) {xs : List IV} : revIV (sq xs) = some (sq xs.reverse) := by
  rcases hq with rfl | rfl <;> rfl
abbrev pBack (F0 : Fn) : Prop := ∀ (xs : List Step) (sq : List IV → IV), (sq = .tup ∨ sq = .lst) → xs.length < 900000 → F0.run [.iv (sq (xs.map iv))] [] = .ok (.iv (.tup ((backL xs).map iv))) []
theorem run_back {fs : FS} : pBack (fnD fs d_back_of) := by
  intro xs sq hq hl
  have cc : compGo (compStep [1, 2] (.t [.n 1, .n 2]) (wipeE [some (.iv (sq (xs.map iv))), none, none] [1, 2]) (denTs fs []) (denE fs (.tup [.v 1, .neg (.v 2)]))) (xs.reverse.map iv) [] [] = .ok ((backL xs).map iv) [] := by
    rw [compGo_m (g := fun s : Step => iv (s.1, -s.2)) xs.reverse (fun s _ => by simp [compStep, wipeE, iv_int, szOk]; rfl) (by simp; omega)]
    simp [backL, List.map_map, Function.comp_def]
  rw [List.map_reverse] at cc
  simp [fnD_run, d_back_of, rd, rev_sq hq, it_sq hq, cc]
def lenL (xs : List Step) : Int := (xs.map fun s => if s.2 < 0 then -s.2 else s.2).sum
abbrev pLen (F0 : Fn) : Prop := ∀ (xs : List Step) (sq : List IV → IV), (sq = .tup ∨ sq = .lst) → xs.length < 900000 → F0.run [.iv (sq (xs.map iv))] [] = .ok (.iv (.int (lenL xs))) []
theorem run_len {fs : FS} : pLen (fnD fs d_length_in) := by
  intro xs sq hq hl
  have cc : compGo (compStep [1, 2] (.t [.n 1, .n 2]) (wipeE [some (.iv (sq (xs.map iv))), none, none] [1, 2]) (denTs fs []) (denE fs (.bi .abs [.v 2]))) (xs.map iv) [] [] = .ok (xs.map fun s => IV.int (if s.2 < 0 then -s.2 else s.2)) [] :=
    compGo_m (g := fun s : Step => IV.int (if s.2 < 0 then -s.2 else s.2)) xs (fun s _ => by simp [compStep, wipeE, iv_int]) (by omega)
  simp [fnD_run, d_length_in, it_sq hq, cc, sum_ints, lenL]

/-! ### steps -/
theorem isi_int {os : OS} {i : Int} : biF .isi [.iv (.int i), .iv (.ty "int")] os = .ok (.iv (.bl true)) os := rfl
theorem isi_int_bool {os : OS} {i : Int} : biF .isi [.iv (.int i), .iv (.ty "bool")] os = .ok (.iv (.bl false)) os := rfl
theorem isi_tup {os : OS} {xs : List IV} : biF .isi [.iv (.tup xs), .iv (.ty "tuple")] os = .ok (.iv (.bl true)) os := rfl
theorem isi_str {os : OS} {x : Str} : biF .isi [.iv (.str x), .iv (.ty "str")] os = .ok (.iv (.bl true)) os := rfl
def okT (t : Int) : Bool := decide (t ≠ 0) && (decide (-1000000000000000000000000000000 ≤ t) && decide (t ≤ 1000000000000000000000000000000))
abbrev pTimes (F0 : Fn) : Prop := ∀ (t : Int), F0.run [.iv (iv t)] [] = .ok (.iv (.bl (okT t))) []
theorem run_times {fs : FS} : pTimes (fnD fs d_is_times) := by
  intro t
  simp [fnD_run, d_is_times, iv_int, isi_int, isi_int_bool, okT]
abbrev pStep (F0 : Fn) : Prop := ∀ (ns : List Nm) (s : Step), F0.run [.iv (.tup (ns.map iv)), .iv (iv s)] [] = .ok (.iv (.bl (hasB s.1 ns && okT s.2))) []
theorem run_step {fs : FS} (h : Sp0 fs 5 [false] pTimes) : pStep (fnD fs d_is_step) := by
  intro ns s
  have e1 : ∀ os, cmpPV os .In (.iv (iv s.1)) (.iv (.tup (ns.map iv))) = some (hasB s.1 ns) := fun os => cmp_in_tup (by decide)
  have e2 : ∀ os, callN fs false 5 [.iv (iv s.2)] os = .ok (.iv (.bl (okT s.2))) os := fun os => by rw [Sp0.c1 h fun F0 q => q s.2, adopt_fiv]
  have e3 : ∀ os, biF .isi [.iv (iv s), .iv (.ty "tuple")] os = .ok (.iv (.bl true)) os := fun os => by rw [iv_pair]; rfl
  have e4 : ∀ os, biF .len [.iv (iv s)] os = .ok (.iv (.int 2)) os := fun os => by rw [iv_pair]; rfl
  have e5 : ∀ os, biF .isi [.iv (iv s.1), .iv (.ty "str")] os = .ok (.iv (.bl true)) os := fun os => rfl
  simp [fnD_run, d_is_step, e1, e2, e3, e4, e5]
/-- a script of a field -/
def okS (F : Fd) (xs : List Step) : Prop := xs.length ≤ 60 ∧ ∀ s ∈ xs, s.1 ∈ F.names ∧ okT s.2 = true
theorem okS.inF {F : Fd} {xs : List Step} (h : okS F xs) : InF F xs := fun s hs => (h.2 s hs).1
abbrev pScript (F0 : Fn) : Prop := ∀ (F : Fd) (xs : List Step), okS F xs → F0.run [.iv F.iv, .iv (.tup (xs.map iv))] [] = .ok (.iv (.tup (xs.map iv))) []
theorem run_script {fs : FS} (h : Sp0 fs 6 [false, false] pStep) : pScript (fnD fs d_script_for) := by
  intro F xs hx
  have loop : ∀ (ys : List Step) (k : Nat) (p q : Option PV), (∀ s ∈ ys, s ∈ xs) → ∃ p' q', forGo (turnF fs (.t [.n 2, .n 3]) [.ife (.not (.call false 6 [.idx (.v 0) (.c (.int 0)), .v 3])) [.never] []]) (enumL k (ys.map iv)) [some (.iv F.iv), some (.iv (.tup (xs.map iv))), p, q] [] = .nx [some (.iv F.iv), some (.iv (.tup (xs.map iv))), p', q'] [] := by
    intro ys
    induction ys with
    | nil => intro k p q _; exact ⟨p, q, rfl⟩
    | cons s r ih =>
      intro k p q hs
      obtain ⟨h1, h2⟩ := hx.2 s (hs s List.mem_cons_self)
      have c : callN fs false 6 [.iv (.tup (F.names.map iv)), .iv (iv s)] [] = .ok (.iv (.bl true)) [] := by
        rw [Sp0.c2 h fun F0 q => q F.names s, adopt_fiv, hasB_iff.mpr h1, h2]; rfl
      have et : ∀ env, asgT (.t [.n 2, .n 3]) (.tup [.int k, iv s]) env = asgT (.t [.n 2, .n 3]) (iv ((k : Int), s)) env := fun _ => rfl
      obtain ⟨p', q', e⟩ := ih (k + 1) (some (.iv (.int k))) (some (.iv (iv s))) fun y hy => hs y (List.mem_cons_of_mem _ hy)
      refine ⟨p', q', ?_⟩
      rw [← e]
      simp [enumL, forGo, turnF, et, Fd.iv, c, iv_int]
  obtain ⟨p, q, e⟩ := loop xs 0 none none fun _ h => h
  have hl : ¬ (60 : Int) < (xs.length : Int) := by have := hx.1; omega
  simp [fnD_run, d_script_for, isi_tup, hl, enIV, e]
end DP

set_option Elab.async false
set_option linter.all false
set_option maxRecDepth 100000
set_option maxHeartbeats 1000000
/-! Sp5: right fields; the questions about one script. -/
namespace DP
open PySem L2
open En (iv da)

/-! ### parts of rows -/
theorem cut_lo {α : Type} (xs : List α) (k : Nat) : cutI xs (some (k : Int)) none = xs.drop k := by
  unfold cutI
  rw [HT.sIx_nat, HT.sIx_none]
  by_cases h : k ≤ xs.length
  · rw [Nat.min_eq_left h, List.take_of_length_le (by simp)]
  · rw [Nat.min_eq_right (by omega), List.drop_length, List.drop_eq_nil_of_le (by omega)]; simp
theorem cut_hi {α : Type} (xs : List α) (k : Nat) : cutI xs none (some (k : Int)) = xs.take k := by
  unfold cutI
  rw [HT.sIx_nat, HT.sIx_none]
  simp only [List.drop_zero, Nat.sub_zero]
  by_cases h : k ≤ xs.length
  · rw [Nat.min_eq_left h]
  · rw [Nat.min_eq_right (by omega), List.take_of_length_le (by omega), List.take_of_length_le (by omega)]
theorem cut_bo {α : Type} (xs : List α) (i j : Nat) (h : i ≤ j) (hj : j ≤ xs.length) : cutI xs (some (i : Int)) (some (j : Int)) = (xs.drop i).take (j - i) := by
  unfold cutI
  rw [HT.sIx_nat, HT.sIx_nat, Nat.min_eq_left hj, Nat.min_eq_left (by omega)]
theorem cutI_map {α β : Type} (f : α → β) (xs : List α) (lo hi : Option Int) : cutI (xs.map f) lo hi = (cutI xs lo hi).map f := by
  simp [cutI, List.map_take, List.map_drop]
theorem zipL_map {α β : Type} [En α] [En β] : ∀ (xs : List α) (ys : List β), zipL (xs.map iv) (ys.map iv) = (xs.zip ys).map iv
  | [], _ => rfl
  | _ :: _, [] => rfl
  | x :: xs, y :: ys => by simp only [List.map_cons, zipL, zipL_map xs ys, List.zip_cons_cons]; rfl
/-! ### names -/
def nmS (x : String) (h : PyData.strOk (Str.ofString x) = true := by decide +kernel) : Nm := ⟨Str.ofString x, h⟩
def allNm : List Nm := [nmS "a", nmS "b", nmS "c", nmS "d", nmS "dd", nmS "e", nmS "f", nmS "y", nmS "z", nmS "zzzzzz", nmS "x"]
abbrev pName (F0 : Fn) : Prop := ∀ n ∈ allNm, F0.run [.iv (iv n)] [] = .ok (.iv (.bl true)) []
theorem run_name {fs : FS} : pName (fnD fs d_is_name) := by
  intro n hn
  simp only [allNm, List.mem_cons, List.not_mem_nil, or_false] at hn
  rcases hn with rfl | rfl | rfl | rfl | rfl | rfl | rfl | rfl | rfl | rfl | rfl
  all_goals (rw [fnD_run]; kernel_rfl)
/-! ### values in order -/
class Od (α : Type) [En α] where
  lt : α → α → Bool
  tp : Bool
  dlt : ∀ a b : α, PySem.W.dataLt (da a) (da b) = lt a b
  alk : ∀ a b : α, PySem.W.alike (da a) (da b) = true
  nn : ∀ a : α, nnD (da a) = true
  tup : ∀ a : α, if tp = true then isTupNe (da a) = true else isTup (da a) = false
instance : Od Int := ⟨fun a b => decide (a < b), false, fun a b => PySem.W.dataLt_int a b, fun _ _ => rfl, fun _ => rfl, fun _ => rfl⟩
instance : Od Nm := ⟨fun a b => decide (a < b), false, fun a b => dataLt_nm a b, fun _ _ => rfl, fun _ => rfl, fun _ => rfl⟩
instance {α β : Type} [En α] [En β] [DecidableEq α] [DecidableEq β] [Od α] [Od β] : Od (α × β) := ⟨fun p q => if p.1 = q.1 then (if p.2 = q.2 then false else Od.lt p.2 q.2) else Od.lt p.1 q.1, true, fun p q => by
  show PySem.W.dataLt (.tuple [da p.1, da p.2]) (.tuple [da q.1, da q.2]) = _
  rw [PySem.W.dataLt_pair (Od.alk _ _) (Od.alk _ _), En.eqv_dec, En.eqv_dec, Od.dlt, Od.dlt]
  simp, fun p q => by
  show PySem.W.alike (.tuple [da p.1, da p.2]) (.tuple [da q.1, da q.2]) = _
  simp [PySem.W.alike, PySem.W.alikeAll, Od.alk], fun _ => rfl, fun _ => rfl⟩
section
variable {α : Type} [En α] [Od α] {os : OS} {a b : α} {xs : List α}
theorem cmp_ltO (h : En.dep α ≤ 64) : cmpPV os .Lt (.iv (iv a)) (.iv (iv b)) = some (Od.lt a b) := by
  have e : ordIV (iv a) (iv b) = some (da a, da b) := by simp [ordIV, En.to, sh_of h, Od.alk, Od.nn]
  show (ordIV (iv a) (iv b)).map _ = _
  rw [e]
  simp [Od.dlt]
def srtO (xs : List α) : List α := xs.mergeSort fun a b => !Od.lt b a
theorem sort_o (h : En.dep α ≤ 64) (hz : xs.length ≤ 16777216) : sortIV (xs.map iv) = some ((srtO xs).map iv) := by
  have h1 : alikeAllB (xs.map da) = true := by
    simp only [alikeAllB, List.all_eq_true, List.mem_map, Bool.and_eq_true]
    rintro _ ⟨p, _, rfl⟩
    exact ⟨⟨Od.nn p, sh_of h⟩, by rintro _ ⟨q, _, rfl⟩; exact Od.alk p q⟩
  have h2 : sortableB (xs.map da) = true := by
    unfold sortableB
    cases e : Od.tp α with
    | true =>
      rw [Bool.or_eq_true]
      left
      simp only [List.all_eq_true, List.mem_map]
      rintro _ ⟨p, _, rfl⟩
      have := Od.tup p
      rw [e] at this
      simpa using this
    | false =>
      rw [Bool.or_eq_true]
      right
      simp only [List.all_eq_true, List.mem_map]
      rintro _ ⟨p, _, rfl⟩
      have := Od.tup p
      rw [e] at this
      simpa using this
  have h3 : ((xs.map da).mergeSort (PySem.W.dataLe false id)) = (srtO xs).map da := by
    unfold srtO
    rw [List.map_mergeSort (s := PySem.W.dataLe false id)]
    intro a _ b _
    show (!Od.lt b a) = !PySem.W.dataLt (da b) (da a)
    rw [Od.dlt]
  simp [sortIV, toDs_map, h1, h2, szOk, hz, h3, ofDs_map]
end
/-! ### right fields -/
def riseB {α : Type} [En α] [Od α] (xs : List α) : Bool := (xs.zip (xs.drop 1)).all fun p => Od.lt p.1 p.2
abbrev pRise (F0 : Fn) : Prop := (∀ xs : List Nm, xs.length ≤ 1000 → F0.run [.iv (.tup (xs.map iv))] [] = .ok (.iv (.bl (riseB xs))) []) ∧ ∀ xs : List (Nm × Nm), xs.length ≤ 1000 → F0.run [.iv (.tup (xs.map iv))] [] = .ok (.iv (.bl (riseB xs))) []
theorem rise_gen {fs : FS} {α : Type} [En α] [Od α] (h : En.dep α ≤ 60) (xs : List α) (hl : xs.length ≤ 1000) : (fnD fs d_are_rising).run [.iv (.tup (xs.map iv))] [] = .ok (.iv (.bl (riseB xs))) [] := by
  have cc : compGo (compStep [1, 2] (.t [.n 1, .n 2]) (wipeE [some (.iv (.tup (xs.map iv))), none, none] [1, 2]) (denTs fs []) (denE fs (.cmp .Lt (.v 1) (.v 2)))) ((xs.zip (xs.drop 1)).map iv) [] [] = .ok ((xs.zip (xs.drop 1)).map fun p => IV.bl (Od.lt p.1 p.2)) [] :=
    compGo_m (g := fun p : α × α => IV.bl (Od.lt p.1 p.2)) _ (fun p _ => by simp [compStep, wipeE, cmp_ltO (α := α) (show En.dep α ≤ 64 by omega)]) (by simp; omega)
  have c1 : cutI (xs.map iv) (some 1) none = (xs.drop 1).map iv := by rw [cutI_map]; exact congrArg _ (cut_lo xs 1)
  simp only [List.drop_one] at cc c1
  have c2 : zipL (xs.map iv) (xs.map iv).tail = (xs.zip xs.tail).map iv := by rw [← List.map_tail]; exact zipL_map xs xs.tail
  rw [List.map_tail] at c1
  simp [fnD_run, d_are_rising, rd, slcIV, c1, c2, cc, all_bls, riseB]
theorem run_rise {fs : FS} : pRise (fnD fs d_are_rising) := ⟨fun xs h => rise_gen (by decide) xs h, fun xs h => rise_gen (by decide) xs h⟩
structure VF (F : Fd) : Prop where
  ne : F.names ≠ []
  le : F.names.length ≤ 6
  nm : ∀ n ∈ F.names, n ∈ allNm
  rise : riseB F.names = true
  pl : F.pairs.length ≤ 1000
  pr : ∀ p ∈ F.pairs, p.1 ∈ F.names ∧ p.2 ∈ F.names ∧ p.1 < p.2
  prise : riseB F.pairs = true
abbrev pNames (F0 : Fn) : Prop := ∀ ns : List Nm, ns ≠ [] → ns.length ≤ 6 → (∀ n ∈ ns, n ∈ allNm) → riseB ns = true → F0.run [.iv (.tup (ns.map iv))] [] = .ok (.iv (.bl true)) []
theorem run_names {fs : FS} (h1 : Sp0 fs 1 [false] pName) (h2 : Sp0 fs 2 [false] pRise) : pNames (fnD fs d_are_names) := by
  intro ns hne hl hn hr
  have cc : compGo (compStep [1] (.n 1) (wipeE [some (.iv (.tup (ns.map iv))), none] [1]) (denTs fs []) (denE fs (.call false 1 [.v 1]))) (ns.map iv) [] [] = .ok (ns.map fun _ => IV.bl true) [] :=
    compGo_m (g := fun _ : Nm => IV.bl true) ns (fun n hm => by
      have c : callN fs false 1 [.iv (iv n)] [] = .ok (.iv (.bl true)) [] := by rw [Sp0.c1 h1 fun F0 q => q n (hn n hm), adopt_fiv]
      simp [compStep, wipeE, c]) (by omega)
  have c2 : callN fs false 2 [.iv (.tup (ns.map iv))] [] = .ok (.iv (.bl true)) [] := by rw [Sp0.c1 h2 fun F0 q => q.1 ns (by omega), adopt_fiv, hr]
  have l1 : (1 : Int) ≤ (ns.length : Int) := by have := List.length_pos_iff.mpr hne; omega
  have l2 : (ns.length : Int) ≤ 6 := by omega
  have ab : biF .all [.iv (.lst (ns.map fun _ => IV.bl true))] [] = .ok (.iv (.bl true)) [] := by rw [all_bls (p := fun _ => true)]; simp
  simp only [List.map_const'] at cc ab
  simp [fnD_run, d_are_names, isi_tup, l1, l2, itIV, cc, ab, c2]
abbrev pPair (F0 : Fn) : Prop := ∀ (ns : List Nm) (p : Nm × Nm), F0.run [.iv (.tup (ns.map iv)), .iv (iv p)] [] = .ok (.iv (.bl (hasB p.1 ns && (hasB p.2 ns && decide (p.1 < p.2))))) []
theorem run_pair {fs : FS} : pPair (fnD fs d_is_pair) := by
  intro ns p
  have e1 : ∀ os, cmpPV os .In (.iv (iv p.1)) (.iv (.tup (ns.map iv))) = some (hasB p.1 ns) := fun os => cmp_in_tup (by decide)
  have e2 : ∀ os, cmpPV os .In (.iv (iv p.2)) (.iv (.tup (ns.map iv))) = some (hasB p.2 ns) := fun os => cmp_in_tup (by decide)
  have e3 : ∀ os, biF .isi [.iv (iv p), .iv (.ty "tuple")] os = .ok (.iv (.bl true)) os := fun os => rfl
  have e4 : ∀ os, biF .len [.iv (iv p)] os = .ok (.iv (.int 2)) os := fun os => rfl
  have e5 : ∀ (n : Nm) os, biF .isi [.iv (iv n), .iv (.ty "str")] os = .ok (.iv (.bl true)) os := fun n os => rfl
  have e6 : itIV (iv p) = some [iv p.1, iv p.2] := rfl
  have e7 : biF .all [.iv (.lst [.bl true, .bl true])] [] = .ok (.iv (.bl true)) [] := rfl
  have e8 : ∀ os, cmpPV os .Lt (.iv (iv p.1)) (.iv (iv p.2)) = some (decide (p.1 < p.2)) := fun os => cmp_lt_nm
  simp [fnD_run, d_is_pair, e1, e2, e3, e4, e6, compGo, compStep, wipeE, e5, szOk, e7, e8]
abbrev pField (F0 : Fn) : Prop := ∀ F : Fd, VF F → F0.run [.iv F.iv] [] = .ok (.iv F.iv) []
theorem run_field {fs : FS} (h3 : Sp0 fs 3 [false] pNames) (h4 : Sp0 fs 4 [false, false] pPair) (h2 : Sp0 fs 2 [false] pRise) : pField (fnD fs d_need_field) := by
  intro F v
  have c3 : callN fs false 3 [.iv (.tup (F.names.map iv))] [] = .ok (.iv (.bl true)) [] := by rw [Sp0.c1 h3 fun F0 q => q F.names v.ne v.le v.nm v.rise, adopt_fiv]
  have c2 : callN fs false 2 [.iv (.tup (F.pairs.map iv))] [] = .ok (.iv (.bl true)) [] := by rw [Sp0.c1 h2 fun F0 q => q.2 F.pairs v.pl, adopt_fiv, v.prise]
  have cc : compGo (compStep [1] (.n 1) (wipeE [some (.iv (.tup [.tup (F.names.map iv), .tup (F.pairs.map iv)])), none] [1]) (denTs fs []) (denE fs (.call false 4 [.idx (.v 0) (.c (.int 0)), .v 1]))) (F.pairs.map iv) [] [] = .ok (F.pairs.map fun _ => IV.bl true) [] :=
    compGo_m (g := fun _ : Nm × Nm => IV.bl true) F.pairs (fun p hm => by
      obtain ⟨q1, q2, q3⟩ := v.pr p hm
      have c : callN fs false 4 [.iv (.tup (F.names.map iv)), .iv (iv p)] [] = .ok (.iv (.bl true)) [] := by rw [Sp0.c2 h4 fun F0 q => q F.names p, adopt_fiv, hasB_iff.mpr q1, hasB_iff.mpr q2, decide_eq_true q3]; rfl
      simp [compStep, wipeE, c]) (by have := v.pl; omega)
  have ab : biF .all [.iv (.lst (F.pairs.map fun _ => IV.bl true))] [] = .ok (.iv (.bl true)) [] := by rw [all_bls (p := fun _ => true)]; simp
  simp only [List.map_const'] at cc ab
  simp [fnD_run, d_need_field, Fd.iv, isi_tup, c3, c2, itIV, cc, ab]
abbrev pNeed (F0 : Fn) : Prop := ∀ (F : Fd) (xs : List Step), VF F → okS F xs → F0.run [.iv F.iv, .iv (.tup (xs.map iv))] [] = .ok (.iv (.tup (xs.map iv))) []
theorem run_need {fs : FS} (h7 : Sp0 fs 7 [false, false] pScript) (h8 : Sp0 fs 8 [false] pField) : pNeed (fnD fs d_need_script) := by
  intro F xs v hx
  have c8 : callN fs false 8 [.iv F.iv] [] = .ok (.iv F.iv) [] := by rw [Sp0.c1 h8 fun F0 q => q F v, adopt_fiv]
  have c7 : callN fs false 7 [.iv F.iv, .iv (.tup (xs.map iv))] [] = .ok (.iv (.tup (xs.map iv))) [] := by rw [Sp0.c2 h7 fun F0 q => q F xs hx, adopt_fiv]
  simp [fnD_run, d_need_script, c8, c7]
theorem VF.few {F : Fd} (v : VF F) : F.names.length ≤ 100 := by have := v.le; omega
end DP

set_option Elab.async false
set_option linter.all false
set_option maxRecDepth 100000
set_option maxHeartbeats 1000000
/-! Sp6: the questions about one script; repr; draws. -/
namespace DP
open PySem L2
open En (iv da)

/-! ### questions about one script -/
section
variable {fs : FS}
abbrev pLeastPile (F0 : Fn) : Prop := ∀ (F : Fd) (xs : List Step), VF F → okS F xs → F0.run [.iv F.iv, .iv (.tup (xs.map iv))] [] = .ok (.iv (.tup ((leastL F xs).map iv))) []
theorem call_need (h : Sp0 fs 16 [false, false] pNeed) {F : Fd} {xs : List Step} (v : VF F) (hx : okS F xs) {os : OS} : callN fs false 16 [.iv F.iv, .iv (.tup (xs.map iv))] os = .ok (.iv (.tup (xs.map iv))) os := by rw [Sp0.c2 h fun F0 q => q F xs v hx, adopt_fiv]
theorem call_least (h : Sp0 fs 15 [false, false] pLeast) {F : Fd} {xs : List Step} (v : VF F) (hl : xs.length < 900000) (hx : InF F xs) {sq : List IV → IV} (hq : sq = .tup ∨ sq = .lst) {os : OS} : callN fs false 15 [.iv F.iv, .iv (sq (xs.map iv))] os = .ok (.iv (.tup ((leastL F xs).map iv))) os := by rw [Sp0.c2 h fun F0 q => q F xs sq hq v.few hl hx, adopt_fiv]
theorem call_piled (h : Sp0 fs 14 [false, false] pPiled) {F : Fd} {xs : List Step} (hl : xs.length < 900000) {sq : List IV → IV} (hq : sq = .tup ∨ sq = .lst) {os : OS} : callN fs false 14 [.iv F.iv, .iv (sq (xs.map iv))] os = .ok (.iv (.lst ((pileL F xs).map iv))) os := by rw [Sp0.c2 h fun F0 q => q F xs sq hq hl, adopt_fob]
theorem call_back (h : Sp0 fs 17 [false] pBack) {xs : List Step} (hl : xs.length < 900000) {sq : List IV → IV} (hq : sq = .tup ∨ sq = .lst) {os : OS} : callN fs false 17 [.iv (sq (xs.map iv))] os = .ok (.iv (.tup ((backL xs).map iv))) os := by rw [Sp0.c1 h fun F0 q => q xs sq hq hl, adopt_fiv]
theorem call_len (h : Sp0 fs 18 [false] pLen) {xs : List Step} (hl : xs.length < 900000) {sq : List IV → IV} (hq : sq = .tup ∨ sq = .lst) {os : OS} : callN fs false 18 [.iv (sq (xs.map iv))] os = .ok (.iv (.int (lenL xs))) os := by rw [Sp0.c1 h fun F0 q => q xs sq hq hl, adopt_fiv]
theorem call_firsts (h : Sp0 fs 12 [false, false] pFirsts) {F : Fd} {xs : List Step} (hn : F.names.length ≤ 100) (hl : xs.length < 900000) {sq : List IV → IV} (hq : sq = .tup ∨ sq = .lst) {os : OS} : callN fs false 12 [.iv F.iv, .iv (sq (xs.map iv))] os = .ok (.iv (.lst ((firstsL F xs F.names 0).map fun k : Nat => IV.int (k : Int)))) os := by rw [Sp0.c2 h fun F0 q => q F xs sq hq hn hl, adopt_fob]
theorem run_least_pile (h15 : Sp0 fs 15 [false, false] pLeast) (h16 : Sp0 fs 16 [false, false] pNeed) : pLeastPile (fnD fs d_least_pile) := by
  intro F xs v hx
  have := hx.1
  simp [fnD_run, d_least_pile, call_need h16 v hx, call_least h15 v (show xs.length < 900000 by omega) hx.inF (.inl rfl)]
theorem backL_in {F : Fd} {xs : List Step} (h : InF F xs) : InF F (backL xs) := fun s hs => by
  simp only [backL, List.mem_map, List.mem_reverse] at hs
  obtain ⟨t, ht, rfl⟩ := hs
  exact h t ht
theorem backL_len {xs : List Step} : (backL xs).length = xs.length := by simp [backL]
abbrev pTaken (F0 : Fn) : Prop := ∀ (F : Fd) (xs : List Step), VF F → okS F xs → F0.run [.iv F.iv, .iv (.tup (xs.map iv))] [] = .ok (.iv (.tup ((leastL F (backL xs)).map iv))) []
theorem run_taken (h15 : Sp0 fs 15 [false, false] pLeast) (h16 : Sp0 fs 16 [false, false] pNeed) (h17 : Sp0 fs 17 [false] pBack) : pTaken (fnD fs d_taken_back) := by
  intro F xs v hx
  have := hx.1
  have e := call_least (os := []) h15 v (show (backL xs).length < 900000 by rw [backL_len]; omega) (backL_in hx.inF) (.inl rfl)
  simp [fnD_run, d_taken_back, call_need h16 v hx, call_back h17 (show xs.length < 900000 by omega) (.inl rfl), e]
abbrev pLength (F0 : Fn) : Prop := ∀ (F : Fd) (xs : List Step), VF F → okS F xs → F0.run [.iv F.iv, .iv (.tup (xs.map iv))] [] = .ok (.iv (.int (lenL (pileL F xs)))) []
theorem run_length (h14 : Sp0 fs 14 [false, false] pPiled) (h16 : Sp0 fs 16 [false, false] pNeed) (h18 : Sp0 fs 18 [false] pLen) : pLength (fnD fs d_length) := by
  intro F xs v hx
  have := hx.1
  have := pileL_len (F := F) (xs := xs)
  simp [fnD_run, d_length, call_need h16 v hx, call_piled h14 (show xs.length < 900000 by omega) (.inl rfl), call_len h18 (show (pileL F xs).length < 900000 by omega) (.inr rfl)]
abbrev pIsPile (F0 : Fn) : Prop := ∀ (F : Fd) (xs : List Step), VF F → okS F xs → F0.run [.iv F.iv, .iv (.tup (xs.map iv))] [] = .ok (.iv (.bl (decide ((pileL F xs).length = xs.length)))) []
theorem run_is_pile (h14 : Sp0 fs 14 [false, false] pPiled) (h16 : Sp0 fs 16 [false, false] pNeed) : pIsPile (fnD fs d_is_pile) := by
  intro F xs v hx
  have := hx.1
  have e : decide (((pileL F xs).length : Int) = (xs.length : Int)) = decide ((pileL F xs).length = xs.length) := decide_eq_decide.mpr (by omega)
  simp [fnD_run, d_is_pile, call_need h16 v hx, call_piled h14 (show xs.length < 900000 by omega) (.inl rfl), e]
/-- the names that can stand first, ascending -/
def frontsL (F : Fd) (xs : List Step) : List Nm := srtO ((firstsL F xs F.names 0).map fun k => (nth xs k).1)
theorem firstsL_len {F : Fd} : ∀ (zs : List Step) (st : List Nm) (k : Nat), (firstsL F zs st k).length ≤ zs.length
  | [], st, k => by simp [firstsL]
  | z :: zs, st, k => by
    have := firstsL_len (F := F) zs (st.filter fun n => F.ap n z.1) (k + 1)
    simp only [firstsL, List.length_append, List.length_cons]
    split <;> split <;> simp <;> omega
theorem fronts_comp {F : Fd} {xs : List Step} {env : Env} (hl : xs.length < 900000) (he : env[2]? = some (some (.iv (.lst (xs.map iv))))) (hlen : 3 < env.length) : compGo (compStep [3] (.n 3) (wipeE env [3]) (denTs fs []) (denE fs (.idx (.idx (.v 2) (.v 3)) (.c (.int 0))))) ((firstsL F xs F.names 0).map fun k : Nat => IV.int (k : Int)) [] [] = .ok (((firstsL F xs F.names 0).map fun k => (nth xs k).1).map iv) [] := by
  rw [compGo_m (g := fun k : Nat => iv (nth xs k).1)]
  · simp [List.map_map, Function.comp_def]
  · intro k hk
    have := firstsL_lt hk
    have hk' : k < xs.length := by omega
    have g1 : ∀ o : Option PV, getV (env.set 3 o) 2 [] = .ok (.iv (.lst (xs.map iv))) [] := fun o => by
      unfold getV
      rw [List.getElem?_set_ne (by decide), he]
    have g2 : getV (env.set 3 (some (.iv (.int (k : Int))))) 3 [] = .ok (.iv (.int (k : Int))) [] := by
      unfold getV
      rw [List.getElem?_set_self hlen]
    simp [compStep, wipeE, hlen, g1, g2, atI_map hk', getD_of hk']
  · have := firstsL_len (F := F) xs F.names 0
    omega
abbrev pFronts (F0 : Fn) : Prop := ∀ (F : Fd) (xs : List Step), VF F → okS F xs → F0.run [.iv F.iv, .iv (.tup (xs.map iv))] [] = .ok (.iv (.tup ((frontsL F (pileL F xs)).map iv))) []
theorem run_fronts (h12 : Sp0 fs 12 [false, false] pFirsts) (h14 : Sp0 fs 14 [false, false] pPiled) (h16 : Sp0 fs 16 [false, false] pNeed) : pFronts (fnD fs d_fronts) := by
  intro F xs v hx
  have := hx.1
  have hp := pileL_len (F := F) (xs := xs)
  have e1 := fronts_comp (fs := fs) (F := F) (xs := pileL F xs) (env := [some (.iv F.iv), some (.iv (.tup (xs.map iv))), some (.iv (.lst ((pileL F xs).map iv))), none]) (by omega) rfl (by simp)
  have e2 := sort_o (α := Nm) (xs := (firstsL F (pileL F xs) F.names 0).map fun k => (nth (pileL F xs) k).1) (by decide) (by have := firstsL_len (F := F) (pileL F xs) F.names 0; simp; omega)
  simp only [List.map_map] at e1 e2
  simp [fnD_run, d_fronts, call_need h16 v hx, call_piled h14 (show xs.length < 900000 by omega) (.inl rfl), call_firsts h12 v.few (show (pileL F xs).length < 900000 by omega) (.inr rfl), itIV, e1, srtF, rd, e2, frontsL]
abbrev pEnds (F0 : Fn) : Prop := ∀ (F : Fd) (xs : List Step), VF F → okS F xs → F0.run [.iv F.iv, .iv (.tup (xs.map iv))] [] = .ok (.iv (.tup ((frontsL F (pileL F (backL xs))).map iv))) []
theorem run_ends (h12 : Sp0 fs 12 [false, false] pFirsts) (h14 : Sp0 fs 14 [false, false] pPiled) (h16 : Sp0 fs 16 [false, false] pNeed) (h17 : Sp0 fs 17 [false] pBack) : pEnds (fnD fs d_ends) := by
  intro F xs v hx
  have := hx.1
  have hp := pileL_len (F := F) (xs := backL xs)
  rw [backL_len] at hp
  have e1 := fronts_comp (fs := fs) (F := F) (xs := pileL F (backL xs)) (env := [some (.iv F.iv), some (.iv (.tup (xs.map iv))), some (.iv (.lst ((pileL F (backL xs)).map iv))), none]) (by omega) rfl (by simp)
  have e2 := sort_o (α := Nm) (xs := (firstsL F (pileL F (backL xs)) F.names 0).map fun k => (nth (pileL F (backL xs)) k).1) (by decide) (by have := firstsL_len (F := F) (pileL F (backL xs)) F.names 0; simp; omega)
  simp only [List.map_map] at e1 e2
  have e3 := call_piled (os := []) (F := F) h14 (show (backL xs).length < 900000 by rw [backL_len]; omega) (.inl rfl)
  simp [fnD_run, d_ends, call_need h16 v hx, call_back h17 (show xs.length < 900000 by omega) (.inl rfl), e3, call_firsts h12 v.few (show (pileL F (backL xs)).length < 900000 by omega) (.inr rfl), itIV, e1, srtF, rd, e2, frontsL]
end
end DP

set_option Elab.async false
set_option linter.all false
set_option maxRecDepth 100000
set_option maxHeartbeats 1000000
/-! Sp7: repr; draws; drawn fields and scripts. -/
namespace DP
open PySem L2
open En (iv da)

/-! ### what can be shown -/
def Sh (k n : Nat) (x : IV) : Prop := ∃ d, toD x = some d ∧ d.showable = true ∧ d.canLay0 = true ∧ d.depth ≤ k ∧ cost d ≤ n
theorem Sh.mono {k n k' n' : Nat} {x : IV} (h : Sh k n x) (h1 : k ≤ k') (h2 : n ≤ n') : Sh k' n' x := by
  obtain ⟨d, a, b, c, e, f⟩ := h
  exact ⟨d, a, b, c, by omega, by omega⟩
theorem sh_i {i : Int} (h : i.natAbs < 2 ^ 1900) : Sh 0 1930 (.int i) := by
  refine ⟨.int i, rfl, ?_, rfl, Nat.le_refl _, Nat.le_refl _⟩
  simp only [PyData.showable, decide_eq_true_eq]
  by_cases h0 : i.natAbs = 0
  · rw [h0]; decide
  · have := (Nat.log2_lt h0).mpr h
    omega
theorem sh_b {b : Bool} : Sh 0 8 (.bl b) := ⟨.bool b, rfl, rfl, rfl, Nat.le_refl _, Nat.le_refl _⟩
theorem sh_n : Sh 0 8 .non := ⟨.none, rfl, rfl, rfl, Nat.le_refl _, Nat.le_refl _⟩
theorem sh_s {n : Nm} (h : n.s.length ≤ 100) : Sh 0 1212 (iv n) := ⟨da n, rfl, rfl, n.ok, Nat.le_refl _, by show 12 * n.s.length + 12 ≤ _; omega⟩
theorem shs {k n : Nat} : ∀ {xs : List IV}, (∀ x ∈ xs, Sh k n x) → ∃ ds, toDs xs = some ds ∧ PyData.showableAll ds = true ∧ PyData.canLayAll0 ds = true ∧ PyData.depthAll ds ≤ k ∧ costs ds ≤ xs.length * (n + 2)
  | [], _ => ⟨[], rfl, rfl, rfl, Nat.zero_le _, Nat.zero_le _⟩
  | x :: xs, h => by
    obtain ⟨d, a, b, c, e, f⟩ := h x List.mem_cons_self
    obtain ⟨ds, a', b', c', e', f'⟩ := shs fun y hy => h y (List.mem_cons_of_mem _ hy)
    refine ⟨d :: ds, by simp [toDs, a, a'], by simp [PyData.showableAll, b, b'], by simp [PyData.canLayAll0, c, c'], by simp only [PyData.depthAll]; omega, ?_⟩
    simp only [costs, List.length_cons, Nat.add_mul]
    omega
theorem sh_t {k n : Nat} {xs : List IV} (h : ∀ x ∈ xs, Sh k n x) : Sh (k + 1) (xs.length * (n + 2) + 8) (.tup xs) := by
  obtain ⟨ds, a, b, c, e, f⟩ := shs h
  exact ⟨.tuple ds, by simp [toD, a], b, c, by simp only [PyData.depth]; omega, by simp only [cost]; omega⟩
theorem sh_l {k n : Nat} {xs : List IV} (h : ∀ x ∈ xs, Sh k n x) : Sh (k + 1) (xs.length * (n + 2) + 8) (.lst xs) := by
  obtain ⟨ds, a, b, c, e, f⟩ := shs h
  exact ⟨.list ds, by simp [toD, a], b, c, by simp only [PyData.depth]; omega, by simp only [cost]; omega⟩
theorem repr_sh {k n : Nat} {x : IV} (h : Sh k n x) (h1 : k ≤ 60) (h2 : n ≤ 16000000) : ∃ z, reprIV x = some (.str z) := by
  obtain ⟨d, a, b, c, e, f⟩ := h
  have sh : SeqAt.shaped d = true := by simp only [SeqAt.shaped, c, Bool.true_and, decide_eq_true_eq]; omega
  have sz : szOk (cost d) = true := by simp only [szOk, Nat.ble_eq]; omega
  exact ⟨d.shown, by simp [reprIV, a, b, sh, sz]⟩
theorem bi_repr_of {x : IV} {z : Str} (h : reprIV x = some (.str z)) {os : OS} : biF .repr [.iv x] os = .ok (.iv (.str z)) os := by
  simp [biF, rdAll, rd, biIV, h]
abbrev pLike (F0 : Fn) : Prop := ∀ (x : IV) (k n : Nat), Sh k n x → k ≤ 60 → n ≤ 16000000 → F0.run [.iv x, .iv x] [] = .ok (.iv (.bl true)) []
theorem run_like {fs : FS} : pLike (fnD fs d_law_like) := by
  intro x k n h h1 h2
  obtain ⟨z, e⟩ := repr_sh h h1 h2
  simp [fnD_run, d_law_like, bi_repr_of e]

/-! ### draws -/
abbrev pDraw (F0 : Fn) : Prop := F0.run = drawFn.run
/-- a state of draws, with at most n draws behind it -/
def Dw (n : Nat) (o : OB) : Prop := ∃ cells great spot, o = .drw cells great spot ∧ cells.length = 64 ∧ 0 ≤ spot ∧ spot ≤ (n : Int)
theorem Dw.mono {n m : Nat} {o : OB} (h : Dw n o) (l : n ≤ m) : Dw m o := by
  obtain ⟨a, b, c, d, e, f, g⟩ := h
  exact ⟨a, b, c, d, e, f, by omega⟩
theorem Dw.alive {n : Nat} {o : OB} (h : Dw n o) : notDead o = true := by
  obtain ⟨a, b, c, rfl, _⟩ := h
  rfl
theorem draw {fs : FS} (h : Sp0 fs 9000 [true, false] pDraw) {os : OS} {k n : Nat} {o : OB} {limit : Int} (ho : os[k]? = some o) (hw : Dw n o) (hn : n < 1000000000000000000) (h0 : 0 < limit) (h1 : limit < 1073741824) :
    ∃ v o', 0 ≤ v ∧ v < limit ∧ Dw (n + 1) o' ∧ callN fs false 9000 [.ref k, .iv (.int limit)] os = .ok (.iv (.int v)) (os.set k o') := by
  obtain ⟨cells, great, spot, rfl, hc, s0, s1⟩ := hw
  have hok : drawOk cells spot limit = true := by simp [drawOk, hc, s0, h0, h1]; omega
  refine ⟨drawVal cells great spot limit, .drw cells (drawGreat great spot limit) (spot + 1), ?_, ?_, ⟨cells, _, _, rfl, hc, by omega, by omega⟩, ?_⟩
  · unfold drawVal
    split
    · split <;> exact Int.emod_nonneg _ (by omega)
    · exact Int.emod_nonneg _ (by omega)
  · unfold drawVal
    split
    · split <;> exact Int.emod_lt_of_pos _ h0
    · exact Int.emod_lt_of_pos _ h0
  · rw [Sp0.b10 (v := .iv (.int (drawVal cells great spot limit))) (o' := .drw cells (drawGreat great spot limit) (spot + 1)) h ho rfl (fun F0 p => by rw [p]; simp [drawFn, hok]) rfl, adopt_fiv]
theorem for_inv {α : Type} {turn : IV → Env → OS → SR} {e : α → IV} (I : List α → Env → OS → Prop) (h : ∀ x xs env os, I (x :: xs) env os → ∃ env' os', turn (e x) env os = .nx env' os' ∧ I xs env' os') : ∀ xs env os, I xs env os → ∃ env' os', forGo turn (xs.map e) env os = .nx env' os' ∧ I [] env' os'
  | [], env, os, hi => ⟨env, os, rfl, hi⟩
  | x :: xs, env, os, hi => by
    obtain ⟨env', os', h1, h2⟩ := h x xs env os hi
    obtain ⟨env2, os2, h3, h4⟩ := for_inv I h xs env' os' h2
    exact ⟨env2, os2, by simp only [List.map_cons, forGo, h1]; exact h3, h4⟩
theorem rngL_map (lo : Int) (n : Nat) : rngL lo n = (List.range n).map fun i : Nat => IV.int (lo + i) := rfl
theorem rngL_succ (lo : Int) (n : Nat) : rngL lo (n + 1) = .int lo :: rngL (lo + 1) n := by
  simp only [rngL, List.range_succ_eq_map, List.map_cons, List.map_map]
  rw [show lo + ((0 : Nat) : Int) = lo by omega]
  congr 1
  refine List.map_congr_left fun i _ => ?_
  simp only [Function.comp_apply, IV.int.injEq, Nat.succ_eq_add_one]
  omega
@[simp] theorem rng1_int {j : Int} {os : OS} (h : rngOk j = true) : rng1F (.iv (.int j)) os = .ok (rngL 0 j.toNat) os := by simp [rng1F, h]
theorem rngOk_of {j : Int} (h0 : -1000 ≤ j) (h1 : j ≤ 1000000) : rngOk j = true := by simp [rngOk]; omega
theorem for_len {fs : FS} {t : T} {bd : List S} {env : Env} {os : OS} {i : Nat} {xs : List IV} {sq : List IV → IV} (hq : sq = .tup ∨ sq = .lst) (hv : getV env i os = .ok (.iv (sq xs)) os) (hl : xs.length ≤ 1000000) : denS fs (.for t (.rng1 (.bi .len [.v i])) bd) env os = forGo (turnF fs t bd) (rngL 0 xs.length) env os := by
  have h1 : denE fs (.bi .len [.v i]) env os = .ok (.iv (.int xs.length)) os := by
    rw [e_bi, ps_cons, e_v, hv, bind_ok, ps_nil, bind_ok, bind_ok]
    exact len_sq hq
  have h2 : denI fs (.rng1 (.bi .len [.v i])) env os = .ok (rngL 0 xs.length) os := by
    rw [i_rng1, h1, bind_ok, rng1_int (rngOk_of (by omega) (by omega)), Int.toNat_natCast]
  rw [s_for, h2, toSR_ok]
/-! ### drawn fields -/
def sixNm : List Nm := [nmS "a", nmS "b", nmS "c", nmS "dd", nmS "e", nmS "f"]
def prs : List Nm → List (Nm × Nm)
  | [] => []
  | a :: r => r.map (fun b => (a, b)) ++ prs r
theorem riseB_of {α : Type} [En α] [Od α] : ∀ {xs : List α}, xs.Pairwise (fun a b => Od.lt a b = true) → riseB xs = true
  | [], _ => rfl
  | [x], _ => rfl
  | x :: y :: r, h => by
    have h1 := List.rel_of_pairwise_cons h (List.mem_cons_self (a := y) (l := r))
    have h2 := riseB_of (List.Pairwise.of_cons h)
    simp only [riseB, List.drop_one, List.tail_cons, List.zip_cons_cons, List.all_cons, Bool.and_eq_true] at h2 ⊢
    exact ⟨h1, h2⟩
/-- whether names and all their pairs are in order -/
def goodNs (ns : List Nm) : Bool := decide (ns ≠ []) && Nat.ble ns.length 6 && ns.all (fun n => hasB n allNm) && riseB ns && ((prs ns).all fun p => hasB p.1 ns && hasB p.2 ns && decide (p.1 < p.2)) && decide ((prs ns).Pairwise fun a b => Od.lt a b = true)
theorem vf_of {ns : List Nm} {ps : List (Nm × Nm)} (h : goodNs ns = true) (hp : ps.Sublist (prs ns)) : VF ⟨ns, ps⟩ := by
  simp only [goodNs, Bool.and_eq_true, decide_eq_true_eq, List.all_eq_true, Nat.ble_eq] at h
  obtain ⟨⟨⟨⟨⟨h1, h2⟩, h3⟩, h4⟩, h5⟩, h6⟩ := h
  have hl : ∀ (l : List Nm), (prs l).length ≤ l.length * l.length := by
    intro l
    induction l with
    | nil => simp [prs]
    | cons a l ih =>
      simp only [prs, List.length_append, List.length_map, List.length_cons, Nat.add_mul, Nat.mul_add]
      omega
  refine ⟨h1, h2, fun n hn => hasB_iff.mp (h3 n hn), h4, ?_, fun p hm => ?_, riseB_of (h6.sublist hp)⟩
  · have a := hp.length_le
    have b := hl ns
    have c : ns.length * ns.length ≤ 6 * 6 := Nat.mul_le_mul h2 h2
    show ps.length ≤ 1000
    omega
  · obtain ⟨⟨q1, q2⟩, q3⟩ := h5 p (hp.subset hm)
    exact ⟨hasB_iff.mp q1, hasB_iff.mp q2, q3⟩
theorem good_six : ∀ k, k ≤ 6 → 0 < k → goodNs (sixNm.take k) = true := by
  intro k h1 h2
  match k, h1, h2 with
  | 1, _, _ => decide +kernel
  | 2, _, _ => decide +kernel
  | 3, _, _ => decide +kernel
  | 4, _, _ => decide +kernel
  | 5, _, _ => decide +kernel
  | 6, _, _ => decide +kernel
end DP

set_option Elab.async false
set_option linter.all false
set_option maxRecDepth 100000
set_option maxHeartbeats 1000000
/-! Sp8: drawn fields and scripts (first part's laws). -/
namespace DP
open PySem L2
open En (iv da)

abbrev pLField (F0 : Fn) : Prop := ∀ (most : Int) (n : Nat) (o : OB), 1 ≤ most → most ≤ 6 → Dw n o → n < 900000000000000000 → ∃ F o', VF F ∧ (F.names.length : Int) ≤ most ∧ (∀ x ∈ F.names, x ∈ sixNm) ∧ Dw (n + 100) o' ∧ F0.run [.ref 0, .iv (.int most)] [o] = .ok (.iv F.iv) [o']
theorem drop_cons_of {α : Type} [Inhabited α] {xs : List α} {k : Nat} (h : k < xs.length) : xs.drop k = nth xs k :: xs.drop (k + 1) := by
  rw [getD_of h, List.drop_eq_getElem_cons h]
theorem lfield_inner {fs : FS} (h : Sp0 fs 9000 [true, false] pDraw) {ns : List Nm} {most v2 : Int} : ∀ (k : Nat) (others : List Nm) (ps : List (Nm × Nm)) (o : OB) (m : Nat) (p : Option PV), k < ns.length → ps.length + others.length ≤ 1000 → Dw m o → m + others.length < 1000000000000000000 → ∃ (ps' qs : List (Nm × Nm)) (o' : OB) (p' : Option PV), ps' = ps ++ qs ∧ qs.Sublist (others.map fun b => (nth ns k, b)) ∧ Dw (m + others.length) o' ∧
      forGo (turnF fs (.n 6) [.ife (.cmp .Lt (.call false 9000 [.v 0, .c (.int 4)]) (.v 4)) [.ex (.app (.v 3) (.tup [.idx (.v 2) (.v 5), .v 6]))] []]) (others.map iv)
        [some (.ref 0), some (.iv (.int most)), some (.iv (.tup (ns.map iv))), some (.ref 1), some (.iv (.int (1 + v2))), some (.iv (.int k)), p] [o, .lst (ps.map iv)] =
      .nx [some (.ref 0), some (.iv (.int most)), some (.iv (.tup (ns.map iv))), some (.ref 1), some (.iv (.int (1 + v2))), some (.iv (.int k)), p'] [o', .lst (ps'.map iv)] := by
    intro k others
    induction others with
    | nil => intro ps o m p _ _ w _; exact ⟨ps, [], o, p, by simp, by simp, w, by simp [forGo]⟩
    | cons b r ih =>
      intro ps o m p hk hp w hm
      simp only [List.length_cons] at hp hm
      obtain ⟨x, o1, x0, x1, w1, ex⟩ := draw h (os := [o, .lst (ps.map iv)]) (k := 0) (limit := 4) rfl w (by omega) (by omega) (by omega)
      simp only [List.set_cons_zero] at ex
      by_cases hx : x < 1 + v2
      · obtain ⟨ps', qs, o2, p2, q1, q2, q3, q4⟩ := ih (ps ++ [(nth ns k, b)]) o1 (m + 1) (some (.iv (iv b))) hk (by simp; omega) w1 (by omega)
        refine ⟨ps', (nth ns k, b) :: qs, o2, p2, by rw [q1]; simp, by simpa using q2, q3.mono (by simp; omega), ?_⟩
        rw [← q4]
        have sz : ps.length ≤ 16777215 := by omega
        simp [forGo, turnF, ex, hx, atI_map hk, isL, appF, szOk, sz, getD_of hk]
        rfl
      · obtain ⟨ps', qs, o2, p2, q1, q2, q3, q4⟩ := ih ps o1 (m + 1) (some (.iv (iv b))) hk (by omega) w1 (by omega)
        refine ⟨ps', qs, o2, p2, q1, by simpa using q2.cons _, q3.mono (by simp; omega), ?_⟩
        rw [← q4]
        simp [forGo, turnF, ex, hx]
theorem lfield_outer {fs : FS} (h : Sp0 fs 9000 [true, false] pDraw) {ns : List Nm} {most v2 : Int} (hl6 : ns.length ≤ 6) : ∀ (d k : Nat) (ps done : List (Nm × Nm)) (o : OB) (m : Nat) (p q : Option PV), k + d = ns.length → ps.Sublist done → done ++ prs (ns.drop k) = prs ns → ps.length + 6 * d ≤ 1000 → Dw m o → m + 6 * d < 1000000000000000000 → ∃ (ps' : List (Nm × Nm)) (o' : OB) (p' q' : Option PV), ps'.Sublist (prs ns) ∧ Dw (m + 6 * d) o' ∧
      forGo (turnF fs (.n 5) [.for (.n 6) (.it (.sLo (.v 2) (.bin .Add (.v 5) (.c (.int 1))))) [.ife (.cmp .Lt (.call false 9000 [.v 0, .c (.int 4)]) (.v 4)) [.ex (.app (.v 3) (.tup [.idx (.v 2) (.v 5), .v 6]))] []]]) (rngL k d)
        [some (.ref 0), some (.iv (.int most)), some (.iv (.tup (ns.map iv))), some (.ref 1), some (.iv (.int (1 + v2))), p, q] [o, .lst (ps.map iv)] =
      .nx [some (.ref 0), some (.iv (.int most)), some (.iv (.tup (ns.map iv))), some (.ref 1), some (.iv (.int (1 + v2))), p', q'] [o', .lst (ps'.map iv)] := by
    intro d
    induction d with
    | zero =>
      intro k ps done o m p q hk hs hd _ w _
      rw [List.drop_eq_nil_of_le (by omega)] at hd
      exact ⟨ps, o, p, q, by simpa [prs, ← hd] using hs, by simpa using w, by simp [rngL, forGo]⟩
    | succ d ih =>
      intro k ps done o m p q hk hs hd hp w hm
      have hk' : k < ns.length := by omega
      obtain ⟨ps1, qs, o1, q1, e1, s1, w1, f1⟩ := lfield_inner h (most := most) (v2 := v2) k (ns.drop (k + 1)) ps o m q hk' (by simp; omega) w (by simp; omega)
      rw [drop_cons_of hk', prs] at hd
      have hql := s1.length_le
      simp only [List.length_map, List.length_drop] at hql w1
      obtain ⟨ps2, o2, p2, q2, s2, w2, f2⟩ := ih (k + 1) ps1 (done ++ (ns.drop (k + 1)).map fun b => (nth ns k, b)) o1 (m + (ns.length - (k + 1))) (some (.iv (.int k))) q1 (by omega) (by rw [e1]; exact hs.append s1) (by rw [← hd]; simp) (by rw [e1]; simp; omega) w1 (by omega)
      refine ⟨ps2, o2, p2, q2, s2, w2.mono (by omega), ?_⟩
      rw [← f2]
      have er : rngL (k : Int) (d + 1) = IV.int k :: rngL ((k + 1 : Nat) : Int) d := by rw [rngL_succ]; rfl
      have c2 : cutI (ns.map iv) (some ((k : Int) + 1)) none = (ns.drop (k + 1)).map iv := by
        rw [cutI_map, show ((k : Int) + 1) = ((k + 1 : Nat) : Int) by omega, cut_lo]
      rw [er]
      simp only [forGo]
      have tn : turnF fs (.n 5) [.for (.n 6) (.it (.sLo (.v 2) (.bin .Add (.v 5) (.c (.int 1))))) [.ife (.cmp .Lt (.call false 9000 [.v 0, .c (.int 4)]) (.v 4)) [.ex (.app (.v 3) (.tup [.idx (.v 2) (.v 5), .v 6]))] []]] (.int k)
          [some (.ref 0), some (.iv (.int most)), some (.iv (.tup (ns.map iv))), some (.ref 1), some (.iv (.int (1 + v2))), p, q] [o, .lst (ps.map iv)] =
          .nx [some (.ref 0), some (.iv (.int most)), some (.iv (.tup (ns.map iv))), some (.ref 1), some (.iv (.int (1 + v2))), some (.iv (.int k)), q1] [o1, .lst (ps1.map iv)] := by
        rw [List.map_drop] at c2 f1
        simp [turnF, rd, slcIV, c2, itIV, f1]
      rw [tn]
theorem run_lfield {fs : FS} (h : Sp0 fs 9000 [true, false] pDraw) : pLField (fnD fs d_law_field) := by
  intro most n o h1 h6 hw hn
  obtain ⟨v1, o1, a1, b1, w1, e1⟩ := draw h (os := [o]) (k := 0) rfl hw (by omega) (show 0 < most by omega) (by omega)
  obtain ⟨v2, o2, a2, b2, w2, e2⟩ := draw h (os := [o1, .lst []]) (k := 0) (limit := 3) rfl w1 (by omega) (by omega) (by omega)
  obtain ⟨j, hj⟩ : ∃ j : Nat, v1 = (j : Int) := ⟨v1.toNat, by omega⟩
  subst hj
  have hj6 : 1 + j ≤ 6 := by omega
  generalize hns : sixNm.take (1 + j) = ns at *
  have hg : goodNs ns = true := by rw [← hns]; exact good_six _ hj6 (by omega)
  have hlen : ns.length = 1 + j := by rw [← hns, List.length_take]; show min (1 + j) 6 = _; omega
  have cut : cutI [IV.str "a", IV.str "b", IV.str "c", IV.str "dd", IV.str "e", IV.str "f"] none (some (1 + (j : Int))) = ns.map iv := by
    have : [IV.str "a", IV.str "b", IV.str "c", IV.str "dd", IV.str "e", IV.str "f"] = sixNm.map iv := rfl
    rw [this, cutI_map, show (1 + (j : Int)) = ((1 + j : Nat) : Int) by omega, cut_hi, hns]
  obtain ⟨ps, o3, p3, q3, s3, w3, f3⟩ := lfield_outer h (ns := ns) (most := most) (v2 := v2) (by omega) ns.length 0 [] [] o2 (n + 1 + 1) none none (by omega) (by simp) (by simp) (by simp; omega) w2 (by omega)
  refine ⟨⟨ns, ps⟩, o3, vf_of hg s3, by show (ns.length : Int) ≤ most; omega, fun x hx => by rw [← hns] at hx; exact List.mem_of_mem_take hx, w3.mono (by omega), ?_⟩
  have f3' : forGo (turnF fs (.n 5) [.for (.n 6) (.it (.sLo (.v 2) (.bin .Add (.v 5) (.c (.int 1))))) [.ife (.cmp .Lt (.call false 9000 [.v 0, .c (.int 4)]) (.v 4)) [.ex (.app (.v 3) (.tup [.idx (.v 2) (.v 5), .v 6]))] []]]) (rngL 0 ns.length)
        [some (.ref 0), some (.iv (.int most)), some (.iv (.tup (ns.map iv))), some (.ref 1), some (.iv (.int (1 + v2))), none, none] [o2, .lst []] = .nx [some (.ref 0), some (.iv (.int most)), some (.iv (.tup (ns.map iv))), some (.ref 1), some (.iv (.int (1 + v2))), p3, q3] [o3, .lst (ps.map iv)] := by
    simpa using f3
  have rg : rngOk (ns.length : Int) = true := rngOk_of (by omega) (by omega)
  simp only [List.set_cons_zero] at e1 e2
  have st1 : denS fs (.par [2, 3] [.sHi (.tup [.c (.str "a"), .c (.str "b"), .c (.str "c"), .c (.str "dd"), .c (.str "e"), .c (.str "f")]) (.bin .Add (.c (.int 1)) (.call false 9000 [.v 0, .v 1])), .lst true []]) [some (.ref 0), some (.iv (.int most)), none, none, none, none, none] [o] = .nx [some (.ref 0), some (.iv (.int most)), some (.iv (.tup (ns.map iv))), some (.ref 1), none, none, none] [o1, .lst []] := by
    simp [szOk, e1, rd, slcIV, cut, setAll]
  have st2 : denS fs (.asg (.n 4) (.bin .Add (.c (.int 1)) (.call false 9000 [.v 0, .c (.int 3)]))) [some (.ref 0), some (.iv (.int most)), some (.iv (.tup (ns.map iv))), some (.ref 1), none, none, none] [o1, .lst []] = .nx [some (.ref 0), some (.iv (.int most)), some (.iv (.tup (ns.map iv))), some (.ref 1), some (.iv (.int (1 + v2))), none, none] [o2, .lst []] := by
    simp [e2]
  have st3 : denS fs (.for (.n 5) (.rng1 (.bi .len [.v 2])) [.for (.n 6) (.it (.sLo (.v 2) (.bin .Add (.v 5) (.c (.int 1))))) [.ife (.cmp .Lt (.call false 9000 [.v 0, .c (.int 4)]) (.v 4)) [.ex (.app (.v 3) (.tup [.idx (.v 2) (.v 5), .v 6]))] []]]) [some (.ref 0), some (.iv (.int most)), some (.iv (.tup (ns.map iv))), some (.ref 1), some (.iv (.int (1 + v2))), none, none] [o2, .lst []] = .nx [some (.ref 0), some (.iv (.int most)), some (.iv (.tup (ns.map iv))), some (.ref 1), some (.iv (.int (1 + v2))), p3, q3] [o3, .lst (ps.map iv)] := by
    rw [for_len (sq := .tup) (xs := ns.map iv) (.inl rfl) rfl (by simp; omega), List.length_map, f3']
  rw [fnD_run]
  show finish 1 (denSs fs [_, _, _, _] [some (.ref 0), some (.iv (.int most)), none, none, none, none, none] [o]) = _
  rw [z_cons, st1, then_nx, z_cons, st2, then_nx, z_cons, st3, then_nx]
  have z2 : szOk 2 = true := rfl
  simp [biF, rdAll, rd, biIV, Fd.iv, z2]
end DP

set_option Elab.async false
set_option linter.all false
set_option maxRecDepth 100000
set_option maxHeartbeats 1000000
/-! Sp9: drawn scripts (first part's laws). -/
namespace DP
open PySem L2
open En (iv da)

def someT : List Int := [1, -1, 1, -1, 2, -2, 3, -3, 1, -1, 6, 10 ^ 30, -(10 ^ 30), 10 ^ 30 - 1]
theorem someT_ok : ∀ t ∈ someT, okT t = true := by decide +kernel
abbrev pLScript (F0 : Fn) : Prop := ∀ (F : Fd) (most : Int) (n : Nat) (o : OB), VF F → 0 ≤ most → most ≤ 60 → Dw n o → n < 900000000000000000 → ∃ xs o', okS F xs ∧ (xs.length : Int) ≤ most ∧ (∀ s ∈ xs, s.2 ∈ someT) ∧ Dw (n + 200) o' ∧ F0.run [.ref 0, .iv F.iv, .iv (.int most)] [o] = .ok (.iv (.tup (xs.map iv))) [o']
theorem lscript_loop {fs : FS} (h : Sp0 fs 9000 [true, false] pDraw) {F : Fd} (v : VF F) {most many : Int} (hm : many = 10 ∨ many = 14) : ∀ (d : Nat) (lo : Int) (xs : List Step) (o : OB) (m : Nat) (p : Option PV), xs.length + d ≤ 1000 → Dw m o → m + 2 * d < 1000000000000000000 → (∀ s ∈ xs, s.1 ∈ F.names ∧ s.2 ∈ someT) → ∃ (ys : List Step) (o' : OB) (p' : Option PV), ys.length = xs.length + d ∧ (∀ s ∈ ys, s.1 ∈ F.names ∧ s.2 ∈ someT) ∧ Dw (m + 2 * d) o' ∧
      forGo (turnF fs (.n 6) [.ex (.app (.v 3) (.tup [.idx (.idx (.v 1) (.c (.int 0))) (.call false 9000 [.v 0, .bi .len [.idx (.v 1) (.c (.int 0))]]), .idx (.v 4) (.call false 9000 [.v 0, .v 5])]))]) (rngL lo d)
        [some (.ref 0), some (.iv F.iv), some (.iv (.int most)), some (.ref 1), some (.iv (.lst (someT.map iv))), some (.iv (.int many)), p] [o, .lst (xs.map iv)] =
      .nx [some (.ref 0), some (.iv F.iv), some (.iv (.int most)), some (.ref 1), some (.iv (.lst (someT.map iv))), some (.iv (.int many)), p'] [o', .lst (ys.map iv)] := by
  intro d
  induction d with
  | zero => intro lo xs o m p _ w _ hx; exact ⟨xs, o, p, by simp, hx, by simpa using w, by simp [rngL, forGo]⟩
  | succ d ih =>
    intro lo xs o m p hl w hmm hx
    have hpos : 0 < F.names.length := List.length_pos_iff.mpr v.ne
    have hle := v.le
    obtain ⟨v1, o1, a1, b1, w1, e1⟩ := draw h (os := [o, .lst (xs.map iv)]) (k := 0) (limit := (F.names.length : Int)) rfl w (by omega) (by omega) (by omega)
    obtain ⟨v2, o2, a2, b2, w2, e2⟩ := draw h (os := [o1, .lst (xs.map iv)]) (k := 0) (limit := many) rfl w1 (by omega) (by omega) (by omega)
    simp only [List.set_cons_zero] at e1 e2
    obtain ⟨i, rfl⟩ : ∃ i : Nat, v1 = (i : Int) := ⟨v1.toNat, by omega⟩
    obtain ⟨j, rfl⟩ : ∃ j : Nat, v2 = (j : Int) := ⟨v2.toNat, by omega⟩
    have hi : i < F.names.length := by omega
    have hj : j < someT.length := by show j < 14; omega
    obtain ⟨ys, o3, p3, q1, q2, q3, q4⟩ := ih (lo + 1) (xs ++ [(F.names[i], someT[j])]) o2 (m + 1 + 1) (some (.iv (.int lo))) (by simp; omega) w2 (by omega) (by
      intro s hs
      rcases List.mem_append.mp hs with q | q
      · exact hx s q
      · rw [List.mem_singleton.mp q]; exact ⟨List.getElem_mem hi, List.getElem_mem hj⟩)
    refine ⟨ys, o3, p3, by rw [q1]; simp; omega, q2, q3.mono (by omega), ?_⟩
    rw [← q4, rngL_succ]
    have sz : xs.length ≤ 16777215 := by omega
    have tn : turnF fs (.n 6) [.ex (.app (.v 3) (.tup [.idx (.idx (.v 1) (.c (.int 0))) (.call false 9000 [.v 0, .bi .len [.idx (.v 1) (.c (.int 0))]]), .idx (.v 4) (.call false 9000 [.v 0, .v 5])]))] (.int lo)
        [some (.ref 0), some (.iv F.iv), some (.iv (.int most)), some (.ref 1), some (.iv (.lst (someT.map iv))), some (.iv (.int many)), p] [o, .lst (xs.map iv)] =
        .nx [some (.ref 0), some (.iv F.iv), some (.iv (.int most)), some (.ref 1), some (.iv (.lst (someT.map iv))), some (.iv (.int many)), some (.iv (.int lo))] [o2, .lst ((xs ++ [(F.names[i], someT[j])]).map iv)] := by
      have t1 := atI_map hi
      have t2 := atI_map hj
      generalize someT = sT at *
      simp [turnF, Fd.iv, e1, e2, t1, t2, isL, appF, szOk, sz]
      rfl
    simp only [forGo, tn]
theorem run_lscript {fs : FS} (h : Sp0 fs 9000 [true, false] pDraw) : pLScript (fnD fs d_law_script) := by
  intro F most n o v h0 h60 hw hn
  obtain ⟨v1, o1, a1, b1, w1, e1⟩ := draw h (os := [o, .lst []]) (k := 0) (limit := 6) rfl hw (by omega) (by omega) (by omega)
  obtain ⟨v2, o2, a2, b2, w2, e2⟩ := draw h (os := [o1, .lst []]) (k := 0) (limit := most + 1) rfl w1 (by omega) (by omega) (by omega)
  simp only [List.set_cons_zero] at e1 e2
  have hmany : (10 + 4 * (if v1 = 0 then 1 else 0) : Int) = 10 ∨ (10 + 4 * (if v1 = 0 then 1 else 0) : Int) = 14 := by by_cases q : v1 = 0 <;> simp [q]
  generalize hM : (10 + 4 * (if v1 = 0 then 1 else 0) : Int) = many at hmany
  obtain ⟨ys, o3, p3, q1, q2, q3, q4⟩ := lscript_loop h v (most := most) hmany v2.toNat 0 [] o2 (n + 1 + 1) none (by simp; omega) w2 (by omega) (by simp)
  have hyl : (ys.length : Int) ≤ most := by rw [q1]; simp; omega
  refine ⟨ys, o3, ⟨by omega, fun s hs => ⟨(q2 s hs).1, someT_ok _ (q2 s hs).2⟩⟩, hyl, fun s hs => (q2 s hs).2, q3.mono (by omega), ?_⟩
  have st1 : denS fs (.par [3, 4] [.lst true [], .lst false [.c (.int 1), .neg (.c (.int 1)), .c (.int 1), .neg (.c (.int 1)), .c (.int 2), .neg (.c (.int 2)), .c (.int 3), .neg (.c (.int 3)), .c (.int 1), .neg (.c (.int 1)), .c (.int 6), .bin .Pow (.c (.int 10)) (.c (.int 30)), .neg (.bin .Pow (.c (.int 10)) (.c (.int 30))), .bin .Sub (.bin .Pow (.c (.int 10)) (.c (.int 30))) (.c (.int 1))]])
      [some (.ref 0), some (.iv F.iv), some (.iv (.int most)), none, none, none, none] [o] = .nx [some (.ref 0), some (.iv F.iv), some (.iv (.int most)), some (.ref 1), some (.iv (.lst (someT.map iv))), none, none] [o, .lst []] := by
    rfl
  have st2 : denS fs (.asg (.n 5) (.bin .Add (.c (.int 10)) (.bin .Mult (.c (.int 4)) (.bi .int [.cmp .Eq (.call false 9000 [.v 0, .c (.int 6)]) (.c (.int 0))]))))
      [some (.ref 0), some (.iv F.iv), some (.iv (.int most)), some (.ref 1), some (.iv (.lst (someT.map iv))), none, none] [o, .lst []] = .nx [some (.ref 0), some (.iv F.iv), some (.iv (.int most)), some (.ref 1), some (.iv (.lst (someT.map iv))), some (.iv (.int many)), none] [o1, .lst []] := by
    have hb : biF .int [.iv (.bl (decide (v1 = 0)))] [o1, .lst []] = .ok (.iv (.int (if decide (v1 = 0) = true then 1 else 0))) [o1, .lst []] := rfl
    have hm4 : ∀ x : Int, binF .Mult (.iv (.int 4)) (.iv (.int x)) [o1, .lst []] = .ok (.iv (.int (4 * x))) [o1, .lst []] := fun x => rfl
    rw [← hM]
    generalize someT = sT at *
    simp [e1, hb, hm4]
  have st3 : denS fs (.for (.n 6) (.rng1 (.call false 9000 [.v 0, .bin .Add (.v 2) (.c (.int 1))])) [.ex (.app (.v 3) (.tup [.idx (.idx (.v 1) (.c (.int 0))) (.call false 9000 [.v 0, .bi .len [.idx (.v 1) (.c (.int 0))]]), .idx (.v 4) (.call false 9000 [.v 0, .v 5])]))])
      [some (.ref 0), some (.iv F.iv), some (.iv (.int most)), some (.ref 1), some (.iv (.lst (someT.map iv))), some (.iv (.int many)), none] [o1, .lst []] = .nx [some (.ref 0), some (.iv F.iv), some (.iv (.int most)), some (.ref 1), some (.iv (.lst (someT.map iv))), some (.iv (.int many)), p3] [o3, .lst (ys.map iv)] := by
    have hi : denI fs (.rng1 (.call false 9000 [.v 0, .bin .Add (.v 2) (.c (.int 1))])) [some (.ref 0), some (.iv F.iv), some (.iv (.int most)), some (.ref 1), some (.iv (.lst (someT.map iv))), some (.iv (.int many)), none] [o1, .lst []] = .ok (rngL 0 v2.toNat) [o2, .lst []] := by
      have hc : denE fs (.call false 9000 [.v 0, .bin .Add (.v 2) (.c (.int 1))]) [some (.ref 0), some (.iv F.iv), some (.iv (.int most)), some (.ref 1), some (.iv (.lst (someT.map iv))), some (.iv (.int many)), none] [o1, .lst []] = .ok (.iv (.int v2)) [o2, .lst []] := by
        generalize someT = sT at *
        simp [e2]
      rw [i_rng1, hc, bind_ok, rng1_int (rngOk_of (by omega) (by omega))]
    rw [s_for, hi, toSR_ok]
    exact q4
  rw [fnD_run]
  show finish 1 (denSs fs [_, _, _, _] [some (.ref 0), some (.iv F.iv), some (.iv (.int most)), none, none, none, none] [o]) = _
  rw [z_cons, st1, then_nx, z_cons, st2, then_nx, z_cons, st3, then_nx]
  generalize someT = sT at *
  simp [biF, rdAll, rd, biIV]
end DP

set_option Elab.async false
set_option linter.all false
set_option maxRecDepth 100000
set_option maxHeartbeats 1000000
/-! Sp10: the law's own piles: what can come together, joining. -/
namespace DP
open PySem L2
open En (iv da)

def scanL (F : Fd) (a : Nm) : List Step → Nat → Option Nat
  | [], _ => none
  | s :: r, j => if s.1 = a then some j else if F.ap s.1 a = true then scanL F a r (j + 1) else none
def metL (F : Fd) : List Step → Nat → Option (Nat × Nat)
  | [], _ => none
  | s :: r, k => match scanL F s.1 r (k + 1) with
    | some j => some (k, j)
    | none => metL F r (k + 1)
def metIV : Option (Nat × Nat) → IV
  | none => .non
  | some (i, j) => .tup [.int (i : Int), .int (j : Int)]
abbrev LAp (fs : FS) : Prop := Sp0 fs 19 [false, false, false] pApart
theorem LAp.call {fs : FS} (h : LAp fs) {F : Fd} {a b : Nm} {os : OS} : callN fs false 19 [.iv F.iv, .iv (iv a), .iv (iv b)] os = .ok (.iv (.bl (F.ap a b))) os := by
  rw [Sp0.c3 h fun F0 p => p F a b, adopt_fiv]
theorem rng2_int {i j : Int} {os : OS} (h1 : rngOk i = true) (h2 : rngOk j = true) : rng2F (.iv (.int i)) (.iv (.int j)) os = .ok (rngL i (j - i).toNat) os := by simp [rng2F, h1, h2]
theorem met_inner {fs : FS} (h : LAp fs) {F : Fd} {xs : List Step} {sq : List IV → IV} (hq : sq = .tup ∨ sq = .lst) {k : Nat} {a : Nm} : ∀ (d j : Nat) (p : Option PV), j + d = xs.length →
    (∀ i, scanL F a (xs.drop j) j = some i → forGo (turnF fs (.n 4) [.ife (.cmp .Eq (.idx (.idx (.v 1) (.v 4)) (.c (.int 0))) (.v 3)) [.ret (.tup [.v 2, .v 4])] [], .ife (.not (.call false 19 [.v 0, .idx (.idx (.v 1) (.v 4)) (.c (.int 0)), .v 3])) [.brk] []]) (rngL j d) [some (.iv F.iv), some (.iv (sq (xs.map iv))), some (.iv (.int k)), some (.iv (iv a)), p] [] = .rt (.iv (.tup [.int k, .int i])) []) ∧
    (scanL F a (xs.drop j) j = none → ∃ p', forGo (turnF fs (.n 4) [.ife (.cmp .Eq (.idx (.idx (.v 1) (.v 4)) (.c (.int 0))) (.v 3)) [.ret (.tup [.v 2, .v 4])] [], .ife (.not (.call false 19 [.v 0, .idx (.idx (.v 1) (.v 4)) (.c (.int 0)), .v 3])) [.brk] []]) (rngL j d) [some (.iv F.iv), some (.iv (sq (xs.map iv))), some (.iv (.int k)), some (.iv (iv a)), p] [] = .nx [some (.iv F.iv), some (.iv (sq (xs.map iv))), some (.iv (.int k)), some (.iv (iv a)), p'] []) := by
  intro d
  induction d with
  | zero =>
    intro j p hj
    rw [List.drop_eq_nil_of_le (by omega)]
    exact ⟨fun i hi => by simp [scanL] at hi, fun _ => ⟨p, rfl⟩⟩
  | succ d ih =>
    intro j p hj
    have hj' : j < xs.length := by omega
    rw [drop_cons_of hj', getD_of hj', scanL, rngL_succ]
    have z2 : szOk 2 = true := rfl
    have c0 : ∀ os, cmpPV os .Eq (.iv (iv xs[j].1)) (.iv (iv a)) = some (decide (xs[j].1 = a)) := fun os => cmp_eq (by decide)
    by_cases h1 : xs[j].1 = a
    · have c1 : ∀ os, cmpPV os .Eq (.iv (iv a)) (.iv (iv a)) = some true := fun os => by have := c0 os; rw [h1] at this; simpa using this
      refine ⟨fun i hi => ?_, fun hn => by simp [h1] at hn⟩
      simp only [h1, if_true, Option.some.injEq] at hi
      subst hi
      simp [forGo, turnF, idx_sq hq, atI_map hj', c1, h1, z2]
    · cases h2 : F.ap xs[j].1 a with
      | true =>
        obtain ⟨r1, r2⟩ := ih (j + 1) (some (.iv (.int j))) (by omega)
        have tn : turnF fs (.n 4) [.ife (.cmp .Eq (.idx (.idx (.v 1) (.v 4)) (.c (.int 0))) (.v 3)) [.ret (.tup [.v 2, .v 4])] [], .ife (.not (.call false 19 [.v 0, .idx (.idx (.v 1) (.v 4)) (.c (.int 0)), .v 3])) [.brk] []] (.int j) [some (.iv F.iv), some (.iv (sq (xs.map iv))), some (.iv (.int k)), some (.iv (iv a)), p] [] = .nx [some (.iv F.iv), some (.iv (sq (xs.map iv))), some (.iv (.int k)), some (.iv (iv a)), some (.iv (.int j))] [] := by
          simp [turnF, idx_sq hq, atI_map hj', c0, h1, h.call, h2]
        have e2 : ((j : Int) + 1) = ((j + 1 : Nat) : Int) := by omega
        simp only [forGo, tn, h1, if_false, if_true, e2]
        exact ⟨r1, r2⟩
      | false =>
        refine ⟨fun i hi => by simp [h1, h2] at hi, fun _ => ⟨some (.iv (.int j)), ?_⟩⟩
        have tn : turnF fs (.n 4) [.ife (.cmp .Eq (.idx (.idx (.v 1) (.v 4)) (.c (.int 0))) (.v 3)) [.ret (.tup [.v 2, .v 4])] [], .ife (.not (.call false 19 [.v 0, .idx (.idx (.v 1) (.v 4)) (.c (.int 0)), .v 3])) [.brk] []] (.int j) [some (.iv F.iv), some (.iv (sq (xs.map iv))), some (.iv (.int k)), some (.iv (iv a)), p] [] = .bk [some (.iv F.iv), some (.iv (sq (xs.map iv))), some (.iv (.int k)), some (.iv (iv a)), some (.iv (.int j))] [] := by
          simp [turnF, idx_sq hq, atI_map hj', c0, h1, h.call, h2]
        simp only [forGo, tn]
abbrev pMet (F0 : Fn) : Prop := ∀ (F : Fd) (xs : List Step) (sq : List IV → IV), (sq = .tup ∨ sq = .lst) → xs.length < 900000 → F0.run [.iv F.iv, .iv (sq (xs.map iv))] [] = .ok (.iv (metIV (metL F xs 0))) []
abbrev metBody : List S := [.asg (.n 3) (.idx (.idx (.v 1) (.v 2)) (.c (.int 0))),
    .for (.n 4) (.rng2 (.bin .Add (.v 2) (.c (.int 1))) (.bi .len [.v 1])) [.ife (.cmp .Eq (.idx (.idx (.v 1) (.v 4)) (.c (.int 0))) (.v 3)) [.ret (.tup [.v 2, .v 4])] [],
    .ife (.not (.call false 19 [.v 0, .idx (.idx (.v 1) (.v 4)) (.c (.int 0)), .v 3])) [.brk] []]]
theorem met_outer {fs : FS} (h : LAp fs) {F : Fd} {xs : List Step} {sq : List IV → IV} (hq : sq = .tup ∨ sq = .lst) (hl : xs.length < 900000) : ∀ (d k : Nat) (p q r : Option PV), k + d = xs.length →
    (∀ ij, metL F (xs.drop k) k = some ij → forGo (turnF fs (.n 2) metBody) (rngL k d) [some (.iv F.iv), some (.iv (sq (xs.map iv))), p, q, r] [] = .rt (.iv (metIV (some ij))) []) ∧
    (metL F (xs.drop k) k = none → ∃ p' q' r', forGo (turnF fs (.n 2) metBody) (rngL k d) [some (.iv F.iv), some (.iv (sq (xs.map iv))), p, q, r] [] = .nx [some (.iv F.iv), some (.iv (sq (xs.map iv))), p', q', r'] []) := by
  intro d
  induction d with
  | zero =>
    intro k p q r hk
    rw [List.drop_eq_nil_of_le (by omega)]
    exact ⟨fun i hi => by simp [metL] at hi, fun _ => ⟨p, q, r, rfl⟩⟩
  | succ d ih =>
    intro k p q r hk
    have hk' : k < xs.length := by omega
    rw [drop_cons_of hk', getD_of hk', metL, rngL_succ]
    obtain ⟨i1, i2⟩ := met_inner h (F := F) (xs := xs) hq (k := k) (a := xs[k].1) (xs.length - (k + 1)) (k + 1) r (by omega)
    have st1 : denS fs (.asg (.n 3) (.idx (.idx (.v 1) (.v 2)) (.c (.int 0)))) [some (.iv F.iv), some (.iv (sq (xs.map iv))), some (.iv (.int k)), q, r] [] = .nx [some (.iv F.iv), some (.iv (sq (xs.map iv))), some (.iv (.int k)), some (.iv (iv xs[k].1)), r] [] := by
      simp [idx_sq hq, atI_map hk']
    have hi : denI fs (.rng2 (.bin .Add (.v 2) (.c (.int 1))) (.bi .len [.v 1])) [some (.iv F.iv), some (.iv (sq (xs.map iv))), some (.iv (.int k)), some (.iv (iv xs[k].1)), r] [] = .ok (rngL ((k + 1 : Nat) : Int) (xs.length - (k + 1))) [] := by
      have e1 : denE fs (.bin .Add (.v 2) (.c (.int 1))) [some (.iv F.iv), some (.iv (sq (xs.map iv))), some (.iv (.int k)), some (.iv (iv xs[k].1)), r] [] = .ok (.iv (.int ((k + 1 : Nat) : Int))) [] := rfl
      have e2 : denE fs (.bi .len [.v 1]) [some (.iv F.iv), some (.iv (sq (xs.map iv))), some (.iv (.int k)), some (.iv (iv xs[k].1)), r] [] = .ok (.iv (.int xs.length)) [] := by
        rw [e_bi, ps_cons, e_v, getV_succ, getV_zero, bind_ok, ps_nil, bind_ok, bind_ok, len_sq hq, List.length_map]
      rw [i_rng2, e1, bind_ok, e2, bind_ok, rng2_int (rngOk_of (by omega) (by omega)) (rngOk_of (by omega) (by omega))]
      congr 2
      omega
    have tn : turnF fs (.n 2) metBody (.int k) [some (.iv F.iv), some (.iv (sq (xs.map iv))), p, q, r] [] = (forGo (turnF fs (.n 4) [.ife (.cmp .Eq (.idx (.idx (.v 1) (.v 4)) (.c (.int 0))) (.v 3)) [.ret (.tup [.v 2, .v 4])] [], .ife (.not (.call false 19 [.v 0, .idx (.idx (.v 1) (.v 4)) (.c (.int 0)), .v 3])) [.brk] []]) (rngL ((k + 1 : Nat) : Int) (xs.length - (k + 1))) [some (.iv F.iv), some (.iv (sq (xs.map iv))), some (.iv (.int k)), some (.iv (iv xs[k].1)), r] []).then fun env os => .nx env os := by
      show denSs fs metBody [some (.iv F.iv), some (.iv (sq (xs.map iv))), some (.iv (.int k)), q, r] [] = _
      rw [z_cons, st1, then_nx, z_cons, s_for, hi, toSR_ok]
      simp only [z_nil]
    have e2 : ((k : Int) + 1) = ((k + 1 : Nat) : Int) := by omega
    cases hs : scanL F xs[k].1 (xs.drop (k + 1)) (k + 1) with
    | some j =>
      rw [i1 j hs] at tn
      refine ⟨fun ij hij => ?_, fun hn => by simp at hn⟩
      simp only [Option.some.injEq] at hij
      subst hij
      simp only [forGo, tn, then_rt]
      rfl
    | none =>
      obtain ⟨p', e⟩ := i2 hs
      rw [e] at tn
      obtain ⟨r1, r2⟩ := ih (k + 1) (some (.iv (.int k))) (some (.iv (iv xs[k].1))) p' (by omega)
      simp only [forGo, tn, then_nx, e2]
      exact ⟨r1, r2⟩
theorem run_met {fs : FS} (h : LAp fs) : pMet (fnD fs d_law_met) := by
  intro F xs sq hq hl
  obtain ⟨r1, r2⟩ := met_outer h (F := F) (xs := xs) hq hl xs.length 0 none none none (by omega)
  rw [List.drop_zero] at r1 r2
  rw [fnD_run]
  show finish 0 (denSs fs [.for (.n 2) (.rng1 (.bi .len [.v 1])) metBody, .ret (.c .non)] [some (.iv F.iv), some (.iv (sq (xs.map iv))), none, none, none] []) = _
  rw [z_cons, for_len hq rfl (by simp; omega), List.length_map]
  have z0 : ((0 : Nat) : Int) = 0 := rfl
  rw [z0] at r1 r2
  cases hm : metL F xs 0 with
  | some ij => rw [r1 ij hm]; rfl
  | none =>
    obtain ⟨p, q, r, e⟩ := r2 hm
    rw [e]
    simp [metIV]
end DP

set_option Elab.async false
set_option linter.all false
set_option maxRecDepth 100000
set_option maxHeartbeats 1000000
/-! Sp11: the law's own piles: joining till nothing can come together. -/
namespace DP
open PySem L2
open En (iv da)

theorem scanL_spec {F : Fd} {a : Nm} : ∀ {xs : List Step} {j i : Nat}, scanL F a xs j = some i → j ≤ i ∧ i < j + xs.length
  | [], j, i, h => by simp [scanL] at h
  | s :: r, j, i, h => by
    simp only [scanL] at h
    simp only [List.length_cons]
    split at h
    · cases h; omega
    · split at h
      · have := scanL_spec h; omega
      · cases h
theorem metL_spec {F : Fd} : ∀ {xs : List Step} {k i j : Nat}, metL F xs k = some (i, j) → k ≤ i ∧ i < j ∧ j < k + xs.length
  | [], k, i, j, h => by simp [metL] at h
  | s :: r, k, i, j, h => by
    simp only [metL] at h
    simp only [List.length_cons]
    split at h
    · rename_i q hq
      cases h
      have := scanL_spec hq
      omega
    · have := metL_spec h
      omega
def lstepL (xs : List Step) (i j : Nat) : List Step :=
  xs.take i ++ (if (nth xs i).2 + (nth xs j).2 = 0 then [] else [((nth xs i).1, (nth xs i).2 + (nth xs j).2)]) ++ ((xs.drop (i + 1)).take (j - (i + 1)) ++ xs.drop (j + 1))
theorem lstepL_len {xs : List Step} {i j : Nat} (h : i < j) (hj : j < xs.length) : (lstepL xs i j).length < xs.length := by
  unfold lstepL
  split <;> simp <;> omega
def lpileL (F : Fd) : Nat → List Step → List Step
  | 0, xs => xs
  | n + 1, xs => match metL F xs 0 with
    | none => xs
    | some (i, j) => lpileL F n (lstepL xs i j)
abbrev pLPile (F0 : Fn) : Prop := ∀ (F : Fd) (xs : List Step) (sq : List IV → IV), (sq = .tup ∨ sq = .lst) → xs.length < 900000 → F0.run [.iv F.iv, .iv (sq (xs.map iv))] [] = .ok (.ob (.lst ((lpileL F xs.length xs).map iv))) []
abbrev lpBody : List S := [.asg (.t [.n 4, .n 5]) (.v 3),
    .asg (.n 6) (.bin .Add (.idx (.idx (.v 2) (.v 4)) (.c (.int 1))) (.idx (.idx (.v 2) (.v 5)) (.c (.int 1)))),
    .asg (.n 7) (.bin .Add (.sBo (.v 2) (.bin .Add (.v 4) (.c (.int 1))) (.v 5)) (.sLo (.v 2) (.bin .Add (.v 5) (.c (.int 1))))),
    .asg (.n 2) (.cat (.bin .Add (.sHi (.v 2) (.v 4)) (.ite (.cmp .NotEq (.v 6) (.c (.int 0))) (.lst false [.tup [.idx (.idx (.v 2) (.v 4)) (.c (.int 0)), .v 6]]) (.lst false []))) (.v 7)),
    .asg (.n 3) (.call false 20 [.v 0, .v 2])]
theorem bin_add_lst {os : OS} {xs ys : List IV} (h : xs.length + ys.length ≤ 16777216) : binF .Add (.iv (.lst xs)) (.iv (.lst ys)) os = .ok (.iv (.lst (xs ++ ys))) os := by simp [binF, rd, binIV, szOk, h]
theorem bin_add_tup {os : OS} {xs ys : List IV} (h : xs.length + ys.length ≤ 16777216) : binF .Add (.iv (.tup xs)) (.iv (.tup ys)) os = .ok (.iv (.tup (xs ++ ys))) os := by simp [binF, rd, binIV, szOk, h]
theorem cat_lst {os : OS} {xs ys : List IV} (h : xs.length + ys.length ≤ 16777216) : catF (.iv (.lst xs)) (.iv (.lst ys)) os = .ok (.ref os.length) (os ++ [.lst (xs ++ ys)]) := by simp [catF, rd, szOk, h]
theorem call_met_ref {fs : FS} (h : Sp0 fs 20 [false, false] pMet) {F : Fd} {xs : List Step} {k : Nat} {os : OS} (ho : os[k]? = some (.lst (xs.map iv))) (hl : xs.length < 900000) : callN fs false 20 [.iv F.iv, .ref k] os = .ok (.iv (metIV (metL F xs 0))) os := by
  rw [Sp0.r2 (a := F.iv) (b := .lst (xs.map iv)) (v := .iv (metIV (metL F xs 0))) h rfl (by simp [rd, ho]) (fun F0 q => q F xs .lst (.inr rfl) hl) (by cases metL F xs 0 <;> rfl), adopt_fiv]
theorem lpile_turn {fs : FS} (h : Sp0 fs 20 [false, false] pMet) {F : Fd} {S0 : PV} {xs : List Step} {k i j : Nat} {os : OS} {p4 p5 p6 p7 : Option PV} (ho : os[k]? = some (.lst (xs.map iv))) (hl : xs.length < 900000) (hij : i < j) (hj : j < xs.length) :
    ∃ q4 q5 q6 q7, denSs fs lpBody [some (.iv F.iv), some S0, some (.ref k), some (.iv (metIV (some (i, j)))), p4, p5, p6, p7] os = .nx [some (.iv F.iv), some S0, some (.ref os.length), some (.iv (metIV (metL F (lstepL xs i j) 0))), q4, q5, q6, q7] (os ++ [.lst ((lstepL xs i j).map iv)]) := by
  have hi : i < xs.length := by omega
  have hz := lstepL_len hij hj
  have ei := idx_ref (os := os) (i := (i : Int)) ho
  have ej := idx_ref (os := os) (i := (j : Int)) ho
  rw [atI_map hi] at ei
  rw [atI_map hj] at ej
  have er : rd os (.ref k) = some (.lst (xs.map iv)) := by simp [rd, ho]
  have c1 : cutI (xs.map iv) (some ((i : Int) + 1)) (some (j : Int)) = ((xs.drop (i + 1)).take (j - (i + 1))).map iv := by
    rw [cutI_map, show ((i : Int) + 1) = ((i + 1 : Nat) : Int) by omega, cut_bo _ _ _ (by omega) (by omega)]
  have c2 : cutI (xs.map iv) (some ((j : Int) + 1)) none = (xs.drop (j + 1)).map iv := by
    rw [cutI_map, show ((j : Int) + 1) = ((j + 1 : Nat) : Int) by omega, cut_lo]
  have c3 : cutI (xs.map iv) none (some (i : Int)) = (xs.take i).map iv := by rw [cutI_map, cut_hi]
  have as : ∀ env, asgP (.t [.n 4, .n 5]) (.iv (metIV (some (i, j)))) env = asgP (.t [.n 4, .n 5]) (.iv (iv ((i : Int), (j : Int)))) env := fun _ => rfl
  have cm := call_met_ref (os := os ++ [.lst ((lstepL xs i j).map iv)]) (k := os.length) h (F := F) (xs := lstepL xs i j) (by simp) (by omega)
  refine ⟨some (.iv (.int i)), some (.iv (.int j)), some (.iv (.int (xs[i].2 + xs[j].2))), some (.iv (.lst (((xs.drop (i + 1)).take (j - (i + 1)) ++ xs.drop (j + 1)).map iv))), ?_⟩
  have hb : ((xs.drop (i + 1)).take (j - (i + 1))).length + (xs.drop (j + 1)).length ≤ 16777216 := by simp; omega
  have st7 := bin_add_lst (os := os) (xs := ((xs.drop (i + 1)).take (j - (i + 1))).map iv) (ys := (xs.drop (j + 1)).map iv) (by simpa using hb)
  rw [← List.map_append] at st7
  have z1 : szOk 1 = true := rfl
  have z2 : szOk 2 = true := rfl
  have z0 : szOk 0 = true := rfl
  have en : denE fs (.ite (.cmp .NotEq (.v 6) (.c (.int 0))) (.lst false [.tup [.idx (.idx (.v 2) (.v 4)) (.c (.int 0)), .v 6]]) (.lst false [])) [some (.iv F.iv), some S0, some (.ref k), some (.iv (metIV (some (i, j)))), some (.iv (.int i)), some (.iv (.int j)), some (.iv (.int (xs[i].2 + xs[j].2))), some (.iv (.lst (((xs.drop (i + 1)).take (j - (i + 1)) ++ xs.drop (j + 1)).map iv)))] os = .ok (.iv (.lst ((if xs[i].2 + xs[j].2 = 0 then ([] : List Step) else [(xs[i].1, xs[i].2 + xs[j].2)]).map iv))) os := by
    by_cases q : xs[i].2 + xs[j].2 = 0
    · simp [q, z0]
    · simp [q, ei, z1, z2]
      rfl
  have hm : (xs.take i).length + (if xs[i].2 + xs[j].2 = 0 then ([] : List Step) else [(xs[i].1, xs[i].2 + xs[j].2)]).length ≤ 16777216 := by
    split <;> simp <;> omega
  have st8 := bin_add_lst (os := os) (xs := (xs.take i).map iv) (ys := (if xs[i].2 + xs[j].2 = 0 then ([] : List Step) else [(xs[i].1, xs[i].2 + xs[j].2)]).map iv) (by simpa using hm)
  rw [← List.map_append] at st8
  have hls : lstepL xs i j = xs.take i ++ (if xs[i].2 + xs[j].2 = 0 then [] else [(xs[i].1, xs[i].2 + xs[j].2)]) ++ ((xs.drop (i + 1)).take (j - (i + 1)) ++ xs.drop (j + 1)) := by
    unfold lstepL
    rw [getD_of hi, getD_of hj]
  have st9 := cat_lst (os := os) (xs := (xs.take i ++ (if xs[i].2 + xs[j].2 = 0 then ([] : List Step) else [(xs[i].1, xs[i].2 + xs[j].2)])).map iv) (ys := ((xs.drop (i + 1)).take (j - (i + 1)) ++ xs.drop (j + 1)).map iv) (by
    rw [← List.length_append, ← List.map_append, ← hls, List.length_map]
    omega)
  rw [← List.map_append, ← hls] at st9
  have s1 : denS fs (.asg (.t [.n 4, .n 5]) (.v 3)) [some (.iv F.iv), some S0, some (.ref k), some (.iv (metIV (some (i, j)))), p4, p5, p6, p7] os = .nx [some (.iv F.iv), some S0, some (.ref k), some (.iv (metIV (some (i, j)))), some (.iv (.int i)), some (.iv (.int j)), p6, p7] os := by
    rw [s_asg, e_v]
    rfl
  have s2 : denS fs (.asg (.n 6) (.bin .Add (.idx (.idx (.v 2) (.v 4)) (.c (.int 1))) (.idx (.idx (.v 2) (.v 5)) (.c (.int 1))))) [some (.iv F.iv), some S0, some (.ref k), some (.iv (metIV (some (i, j)))), some (.iv (.int i)), some (.iv (.int j)), p6, p7] os = .nx [some (.iv F.iv), some S0, some (.ref k), some (.iv (metIV (some (i, j)))), some (.iv (.int i)), some (.iv (.int j)), some (.iv (.int (xs[i].2 + xs[j].2))), p7] os := by
    generalize metIV (some (i, j)) = M
    simp [ei, ej, iv_int]
  have s3 : denS fs (.asg (.n 7) (.bin .Add (.sBo (.v 2) (.bin .Add (.v 4) (.c (.int 1))) (.v 5)) (.sLo (.v 2) (.bin .Add (.v 5) (.c (.int 1)))))) [some (.iv F.iv), some S0, some (.ref k), some (.iv (metIV (some (i, j)))), some (.iv (.int i)), some (.iv (.int j)), some (.iv (.int (xs[i].2 + xs[j].2))), p7] os = .nx [some (.iv F.iv), some S0, some (.ref k), some (.iv (metIV (some (i, j)))), some (.iv (.int i)), some (.iv (.int j)), some (.iv (.int (xs[i].2 + xs[j].2))), some (.iv (.lst (((xs.drop (i + 1)).take (j - (i + 1)) ++ xs.drop (j + 1)).map iv)))] os := by
    generalize metIV (some (i, j)) = M
    simp only [s_asg, e_bin, e_sBo, e_sLo, e_v, e_c, getV_succ, getV_zero, bind_ok, bin_add_int, asInt_int, er, Option.bind_some, slcIV, c1, c2, Option.map_some, lift_some, st7, toSR_ok, asgP_n, List.length_cons, List.length_nil]
    rfl
  have s4 : denS fs (.asg (.n 2) (.cat (.bin .Add (.sHi (.v 2) (.v 4)) (.ite (.cmp .NotEq (.v 6) (.c (.int 0))) (.lst false [.tup [.idx (.idx (.v 2) (.v 4)) (.c (.int 0)), .v 6]]) (.lst false []))) (.v 7))) [some (.iv F.iv), some S0, some (.ref k), some (.iv (metIV (some (i, j)))), some (.iv (.int i)), some (.iv (.int j)), some (.iv (.int (xs[i].2 + xs[j].2))), some (.iv (.lst (((xs.drop (i + 1)).take (j - (i + 1)) ++ xs.drop (j + 1)).map iv)))] os = .nx [some (.iv F.iv), some S0, some (.ref os.length), some (.iv (metIV (some (i, j)))), some (.iv (.int i)), some (.iv (.int j)), some (.iv (.int (xs[i].2 + xs[j].2))), some (.iv (.lst (((xs.drop (i + 1)).take (j - (i + 1)) ++ xs.drop (j + 1)).map iv)))] (os ++ [.lst ((lstepL xs i j).map iv)]) := by
    generalize metIV (some (i, j)) = M at en ⊢
    rw [s_asg, e_cat, e_bin, e_sHi]
    simp only [e_v, getV_succ, getV_zero, bind_ok, asInt_int, er, Option.bind_some, slcIV, c3, Option.map_some, lift_some, en, st8, st9, toSR_ok, asgP_n]
    rfl
  have s5 : denS fs (.asg (.n 3) (.call false 20 [.v 0, .v 2])) [some (.iv F.iv), some S0, some (.ref os.length), some (.iv (metIV (some (i, j)))), some (.iv (.int i)), some (.iv (.int j)), some (.iv (.int (xs[i].2 + xs[j].2))), some (.iv (.lst (((xs.drop (i + 1)).take (j - (i + 1)) ++ xs.drop (j + 1)).map iv)))] (os ++ [.lst ((lstepL xs i j).map iv)]) = .nx [some (.iv F.iv), some S0, some (.ref os.length), some (.iv (metIV (metL F (lstepL xs i j) 0))), some (.iv (.int i)), some (.iv (.int j)), some (.iv (.int (xs[i].2 + xs[j].2))), some (.iv (.lst (((xs.drop (i + 1)).take (j - (i + 1)) ++ xs.drop (j + 1)).map iv)))] (os ++ [.lst ((lstepL xs i j).map iv)]) := by
    rw [s_asg, e_call]
    simp only [ps_cons, ps_nil, e_v, getV_succ, getV_zero, bind_ok, cm, toSR_ok, asgP_n]
    rfl
  rw [z_cons, s1, then_nx, z_cons, s2, then_nx, z_cons, s3, then_nx, z_cons, s4, then_nx, z_cons, s5, then_nx, z_nil]
theorem lpileL_len {F : Fd} : ∀ {n : Nat} {xs : List Step}, (lpileL F n xs).length ≤ xs.length
  | 0, xs => Nat.le_refl _
  | n + 1, xs => by
    unfold lpileL
    split
    · exact Nat.le_refl _
    · rename_i i j e
      have := metL_spec e
      have h2 := lstepL_len (xs := xs) this.2.1 (by omega)
      have h3 := lpileL_len (F := F) (n := n) (xs := lstepL xs i j)
      omega
theorem lpile_loop {fs : FS} (h : Sp0 fs 20 [false, false] pMet) {F : Fd} {S0 : PV} : ∀ (n : Nat) (xs : List Step) (k m : Nat) (os : OS) (p4 p5 p6 p7 : Option PV), xs.length ≤ n → n < m → os[k]? = some (.lst (xs.map iv)) → xs.length < 900000 →
    ∃ (k' : Nat) (os' : OS) (q3 q4 q5 q6 q7 : Option PV), os'[k']? = some (.lst ((lpileL F n xs).map iv)) ∧ whlGo (denE fs (.cmp .IsNot (.v 3) (.c .non))) (denSs fs lpBody) m [some (.iv F.iv), some S0, some (.ref k), some (.iv (metIV (metL F xs 0))), p4, p5, p6, p7] os = .nx [some (.iv F.iv), some S0, some (.ref k'), q3, q4, q5, q6, q7] os' := by
  intro n
  induction n with
  | zero =>
    intro xs k m os p4 p5 p6 p7 hn hm ho hl
    obtain ⟨m, rfl⟩ : ∃ j, m = j + 1 := ⟨m - 1, by omega⟩
    have : xs = [] := List.length_eq_zero_iff.mp (by omega)
    subst this
    refine ⟨k, os, _, p4, p5, p6, p7, ho, whl_end (os1 := os) ?_⟩
    rfl
  | succ n ih =>
    intro xs k m os p4 p5 p6 p7 hn hm ho hl
    obtain ⟨m, rfl⟩ : ∃ j, m = j + 1 := ⟨m - 1, by omega⟩
    cases e : metL F xs 0 with
    | none =>
      refine ⟨k, os, _, p4, p5, p6, p7, by simpa [lpileL, e] using ho, whl_end (os1 := os) rfl⟩
    | some ij =>
      obtain ⟨i, j⟩ := ij
      have hs := metL_spec e
      have hz := lstepL_len (xs := xs) hs.2.1 (by omega)
      obtain ⟨q4, q5, q6, q7, et⟩ := lpile_turn h (F := F) (S0 := S0) (p4 := p4) (p5 := p5) (p6 := p6) (p7 := p7) ho hl hs.2.1 (by omega)
      obtain ⟨k', os', r3, r4, r5, r6, r7, f1, f2⟩ := ih (lstepL xs i j) os.length m (os ++ [.lst ((lstepL xs i j).map iv)]) q4 q5 q6 q7 (by omega) (by omega) (by simp) (by omega)
      refine ⟨k', os', r3, r4, r5, r6, r7, by simpa [lpileL, e] using f1, ?_⟩
      rw [whl_step (os1 := os) rfl et, f2]
theorem run_lpile {fs : FS} (h : Sp0 fs 20 [false, false] pMet) : pLPile (fnD fs d_law_pile) := by
  intro F xs sq hq hl
  obtain ⟨k', os', q3, q4, q5, q6, q7, f1, f2⟩ := lpile_loop h (F := F) (S0 := .iv (sq (xs.map iv))) xs.length xs 0 WF [.lst (xs.map iv)] none none none none (Nat.le_refl _) (by unfold WF; omega) rfl hl
  have c := call_met_ref (os := [.lst (xs.map iv)]) (k := 0) h (F := F) (xs := xs) rfl hl
  rw [fnD_run]
  show finish 0 (denSs fs [.asg (.n 2) (.lstOf true (.v 1)), .asg (.n 3) (.call false 20 [.v 0, .v 2]), .whl (.cmp .IsNot (.v 3) (.c .non)) lpBody, .ret (.v 2)] [some (.iv F.iv), some (.iv (sq (xs.map iv))), none, none, none, none, none, none] []) = _
  have s1 : denS fs (.asg (.n 2) (.lstOf true (.v 1))) [some (.iv F.iv), some (.iv (sq (xs.map iv))), none, none, none, none, none, none] [] = .nx [some (.iv F.iv), some (.iv (sq (xs.map iv))), some (.ref 0), none, none, none, none, none] [.lst (xs.map iv)] := by
    simp [lstOfF, rd, seq_sq hq]
  have s2 : denS fs (.asg (.n 3) (.call false 20 [.v 0, .v 2])) [some (.iv F.iv), some (.iv (sq (xs.map iv))), some (.ref 0), none, none, none, none, none] [.lst (xs.map iv)] = .nx [some (.iv F.iv), some (.iv (sq (xs.map iv))), some (.ref 0), some (.iv (metIV (metL F xs 0))), none, none, none, none] [.lst (xs.map iv)] := by
    simp [c]
  rw [z_cons, s1, then_nx, z_cons, s2, then_nx, z_cons, s_whl, f2, then_nx, z_cons, s_ret, e_v, getV_succ, getV_succ, getV_zero, toSR_ok, then_rt]
  simp [finish, f1, notDead]
end DP

set_option Elab.async false
set_option linter.all false
set_option maxRecDepth 100000
set_option maxHeartbeats 1000000
/-! Sp12: the law's own least piles, backs, lengths; mixed, folded numbers. -/
namespace DP
open PySem L2
open En (iv da)

def lfirstB (F : Fd) (xs : List Step) (k : Nat) : Bool := (xs.take k).all fun s => F.ap s.1 (nth xs k).1
def lfirstL (F : Fd) (xs : List Step) : List Nat := (List.range xs.length).filter (lfirstB F xs)
abbrev pLFirst (F0 : Fn) : Prop := ∀ (F : Fd) (xs : List Step) (sq : List IV → IV), (sq = .tup ∨ sq = .lst) → xs.length < 900000 → F0.run [.iv F.iv, .iv (sq (xs.map iv))] [] = .ok (.ob (.lst ((lfirstL F xs).map fun k : Nat => IV.int (k : Int)))) []
abbrev lfBody : List S := [.ife (.cmp .Eq (.lc false [4] (.n 4) (.it (.sHi (.v 1) (.v 3))) [.not (.call false 19 [.v 0, .idx (.v 4) (.c (.int 0)), .idx (.idx (.v 1) (.v 3)) (.c (.int 0))])] (.c (.int 1))) (.lst false [])) [.ex (.app (.v 2) (.v 3))] []]
theorem slc_sq {sq : List IV → IV} (hq : sq = .tup ∨ sq = .lst) {xs : List IV} {a b : Option Int} : slcIV (sq xs) a b = some (sq (cutI xs a b)) := by
  rcases hq with rfl | rfl <;> rfl
theorem lfirst_turn {fs : FS} (h : LAp fs) {F : Fd} {xs : List Step} {sq : List IV → IV} (hq : sq = .tup ∨ sq = .lst) (hl : xs.length < 900000) {k : Nat} (hk : k < xs.length) {acc : List IV} (ha : acc.length < 900000) {p : Option PV} :
    turnF fs (.n 3) lfBody (.int k) [some (.iv F.iv), some (.iv (sq (xs.map iv))), some (.ref 0), p, none] [.lst acc] = .nx [some (.iv F.iv), some (.iv (sq (xs.map iv))), some (.ref 0), some (.iv (.int k)), none] [.lst (acc ++ if lfirstB F xs k = true then [.int (k : Int)] else [])] := by
  have c3 : cutI (xs.map iv) none (some (k : Int)) = (xs.take k).map iv := by rw [cutI_map, cut_hi]
  have cc : compGo (compStep [4] (.n 4) (wipeE [some (.iv F.iv), some (.iv (sq (xs.map iv))), some (.ref 0), some (.iv (.int k)), none] [4]) (denTs fs [.not (.call false 19 [.v 0, .idx (.v 4) (.c (.int 0)), .idx (.idx (.v 1) (.v 3)) (.c (.int 0))])]) (denE fs (.c (.int 1)))) ((xs.take k).map iv) [] [.lst acc] = .ok (((xs.take k).filter fun s => !F.ap s.1 xs[k].1).map fun _ => IV.int 1) [.lst acc] := by
    refine compGo_f (p := fun s : Step => !F.ap s.1 xs[k].1) (g := fun _ => IV.int 1) (xs.take k) (fun s _ => ?_) (by simp; omega)
    cases q : F.ap s.1 xs[k].1 <;> simp [compStep, wipeE, h.call, idx_sq hq, atI_map hk, q]
  have ce : ∀ os, cmpPV os .Eq (.iv (.lst (((xs.take k).filter fun s => !F.ap s.1 xs[k].1).map fun _ => IV.int 1))) (.iv (.lst [])) = some (lfirstB F xs k) := by
    intro os
    have := cmp_eq_lst (α := Int) (os := os) (xs := ((xs.take k).filter fun s => !F.ap s.1 xs[k].1).map fun _ => (1 : Int)) (ys := []) (by decide)
    simp only [List.map_map, List.map_nil] at this
    have e2 : ((xs.take k).filter fun s => !F.ap s.1 xs[k].1).map (fun _ => IV.int 1) = ((xs.take k).filter fun s => !F.ap s.1 xs[k].1).map (iv ∘ fun _ => (1 : Int)) := rfl
    rw [e2, this]
    unfold lfirstB
    rw [getD_of hk]
    congr 1
    cases q : (xs.take k).all fun s => F.ap s.1 xs[k].1 with
    | true =>
      simp only [decide_eq_true_eq, List.map_eq_nil_iff, List.filter_eq_nil_iff]
      intro s hs
      have := List.all_eq_true.mp q s hs
      simp [this]
    | false =>
      simp only [decide_eq_false_iff_not, List.map_eq_nil_iff, List.filter_eq_nil_iff]
      intro z
      have : (xs.take k).all (fun s => F.ap s.1 xs[k].1) = true := List.all_eq_true.mpr fun s hs => by simpa using z s hs
      rw [this] at q
      cases q
  have sz : acc.length ≤ 16777215 := by omega
  have z0 : szOk 0 = true := rfl
  have el : denE fs (.lc false [4] (.n 4) (.it (.sHi (.v 1) (.v 3))) [.not (.call false 19 [.v 0, .idx (.v 4) (.c (.int 0)), .idx (.idx (.v 1) (.v 3)) (.c (.int 0))])] (.c (.int 1))) [some (.iv F.iv), some (.iv (sq (xs.map iv))), some (.ref 0), some (.iv (.int k)), none] [.lst acc] = .ok (.iv (.lst (((xs.take k).filter fun s => !F.ap s.1 xs[k].1).map fun _ => IV.int 1))) [.lst acc] := by
    rw [e_lc, i_it, e_sHi]
    simp only [e_v, getV_succ, getV_zero, bind_ok, asInt_int, rd, Option.bind_some, slc_sq hq, c3, Option.map_some, lift_some, asIv_iv, it_sq hq, cc, mk_false]
  show denSs fs lfBody [some (.iv F.iv), some (.iv (sq (xs.map iv))), some (.ref 0), some (.iv (.int k)), none] [.lst acc] = _
  rw [z_cons, s_ife, e_cmp, el, bind_ok]
  cases q : lfirstB F xs k <;> simp [ce, q, z0, isL, appF, szOk, sz]
theorem run_lfirst {fs : FS} (h : LAp fs) : pLFirst (fnD fs d_law_first) := by
  intro F xs sq hq hl
  have loop : ∀ (d k : Nat) (acc : List IV) (p : Option PV), k + d = xs.length → acc.length ≤ k → ∃ p', forGo (turnF fs (.n 3) lfBody) (rngL k d) [some (.iv F.iv), some (.iv (sq (xs.map iv))), some (.ref 0), p, none] [.lst acc] = .nx [some (.iv F.iv), some (.iv (sq (xs.map iv))), some (.ref 0), p', none] [.lst (acc ++ (((List.range' k d).filter (lfirstB F xs)).map fun k : Nat => IV.int (k : Int)))] := by
    intro d
    induction d with
    | zero => intro k acc p _ _; exact ⟨p, by simp [rngL, forGo]⟩
    | succ d ih =>
      intro k acc p hk ha
      obtain ⟨p', e⟩ := ih (k + 1) (acc ++ if lfirstB F xs k = true then [.int (k : Int)] else []) (some (.iv (.int k))) (by omega) (by split <;> simp <;> omega)
      refine ⟨p', ?_⟩
      have e2 : ((k : Int) + 1) = ((k + 1 : Nat) : Int) := by omega
      rw [rngL_succ]
      simp only [forGo, lfirst_turn h hq hl (show k < xs.length by omega) (show acc.length < 900000 by omega), e2, e, List.range'_succ, List.filter_cons]
      cases q : lfirstB F xs k <;> simp
  obtain ⟨p, e⟩ := loop xs.length 0 [] none (by omega) (by simp)
  have z0 : ((0 : Nat) : Int) = 0 := rfl
  rw [z0] at e
  rw [fnD_run]
  show finish 0 (denSs fs [.asg (.n 2) (.lst true []), .for (.n 3) (.rng1 (.bi .len [.v 1])) lfBody, .ret (.v 2)] [some (.iv F.iv), some (.iv (sq (xs.map iv))), none, none, none] []) = _
  have s1 : denS fs (.asg (.n 2) (.lst true [])) [some (.iv F.iv), some (.iv (sq (xs.map iv))), none, none, none] [] = .nx [some (.iv F.iv), some (.iv (sq (xs.map iv))), some (.ref 0), none, none] [.lst []] := by
    simp [szOk]
  rw [z_cons, s1, then_nx, z_cons, for_len hq rfl (by simp; omega), List.length_map, e, then_nx]
  simp [finish, notDead, lfirstL, List.range_eq_range']
abbrev pLBack (F0 : Fn) : Prop := ∀ (xs : List Step) (sq : List IV → IV), (sq = .tup ∨ sq = .lst) → xs.length < 900000 → F0.run [.iv (sq (xs.map iv))] [] = .ok (.iv (.tup ((backL xs).map iv))) []
theorem run_lback {fs : FS} : pLBack (fnD fs d_law_back) := by
  intro xs sq hq hl
  have cc : compGo (compStep [1, 2] (.t [.n 1, .n 2]) (wipeE [some (.iv (sq (xs.map iv))), none, none] [1, 2]) (denTs fs []) (denE fs (.tup [.v 1, .bin .Sub (.c (.int 0)) (.v 2)]))) (xs.reverse.map iv) [] [] = .ok ((backL xs).map iv) [] := by
    rw [compGo_m (g := fun s : Step => iv (s.1, 0 - s.2)) xs.reverse (fun s _ => by simp [compStep, wipeE, iv_int, szOk]; rfl) (by simp; omega)]
    simp [backL, List.map_map, Function.comp_def]
  rw [List.map_reverse] at cc
  simp [fnD_run, d_law_back, lstOfF, rd, seq_sq hq, revIV, itIV, cc]
abbrev pLLen (F0 : Fn) : Prop := ∀ (xs : List Step) (sq : List IV → IV), (sq = .tup ∨ sq = .lst) → xs.length < 900000 → F0.run [.iv (sq (xs.map iv))] [] = .ok (.iv (.int (lenL xs))) []
theorem run_llen {fs : FS} : pLLen (fnD fs d_law_length) := by
  intro xs sq hq hl
  have mx : ∀ (i : Int) os, biF .max [.iv (.int i), .iv (.int (0 - i))] os = .ok (.iv (.int (if i < 0 then -i else i))) os := by
    intro i os
    show Res.ok (PV.iv (.int (if 0 - i > i then 0 - i else i))) os = _
    congr 3
    by_cases h : i < 0
    · rw [if_pos h, if_pos (by omega)]; omega
    · rw [if_neg h, if_neg (by omega)]
  have cc : compGo (compStep [1, 2] (.t [.n 1, .n 2]) (wipeE [some (.iv (sq (xs.map iv))), none, none] [1, 2]) (denTs fs []) (denE fs (.bi .max [.v 2, .bin .Sub (.c (.int 0)) (.v 2)]))) (xs.map iv) [] [] = .ok (xs.map fun s => IV.int (if s.2 < 0 then -s.2 else s.2)) [] :=
    compGo_m (g := fun s : Step => IV.int (if s.2 < 0 then -s.2 else s.2)) xs (fun s _ => by
      have m0 := mx s.2 []
      have ed : denE fs (.bi .max [.v 2, .bin .Sub (.c (.int 0)) (.v 2)]) [some (.iv (sq (xs.map iv))), some (.iv (iv s.1)), some (.iv (.int s.2))] [] = .ok (.iv (.int (if s.2 < 0 then -s.2 else s.2))) [] := by
        rw [e_bi]
        simp only [ps_cons, ps_nil, e_bin, e_v, e_c, getV_succ, getV_zero, bind_ok, bin_sub_int, m0]
      have tn : compStep [1, 2] (.t [.n 1, .n 2]) (wipeE [some (.iv (sq (xs.map iv))), none, none] [1, 2]) (denTs fs []) (denE fs (.bi .max [.v 2, .bin .Sub (.c (.int 0)) (.v 2)])) (iv s) [] = ((denE fs (.bi .max [.v 2, .bin .Sub (.c (.int 0)) (.v 2)]) [some (.iv (sq (xs.map iv))), some (.iv (iv s.1)), some (.iv (.int s.2))] []).noX.bind fun v os2 => (match v with
        | .iv y => .ok (some y) os2
        | .ref _ => .bad)) := rfl
      rw [tn, ed]
      rfl) (by omega)
  simp [fnD_run, d_law_length, it_sq hq, cc, sum_ints, lenL]
/-! ### least piles -/
def lnamesL (F : Fd) (xs : List Step) : List Nm := srtO ((lfirstL F xs).map fun k => (nth xs k).1)
def lpickL (F : Fd) (xs : List Step) : Nat := nth ((lfirstL F xs).filter fun k => decide ((nth xs k).1 = nth (lnamesL F xs) 0)) 0
def larrL (F : Fd) : Nat → List Step → List Step
  | 0, _ => []
  | n + 1, xs => if xs = [] then [] else nth xs (lpickL F xs) :: larrL F n (xs.eraseIdx (lpickL F xs))
def lleastL (F : Fd) (xs : List Step) : List Step := larrL F (lpileL F xs.length xs).length (lpileL F xs.length xs)
theorem lfirstL_lt {F : Fd} {xs : List Step} {k : Nat} (h : k ∈ lfirstL F xs) : k < xs.length := by
  simp only [lfirstL, List.mem_filter, List.mem_range] at h
  exact h.1
theorem lfirstL_ne {F : Fd} {xs : List Step} (h : xs ≠ []) : 0 ∈ lfirstL F xs := by
  simp only [lfirstL, List.mem_filter, List.mem_range]
  exact ⟨List.length_pos_iff.mpr h, by simp [lfirstB]⟩
theorem srtO_perm {α : Type} [En α] [Od α] {xs : List α} : (srtO xs).Perm xs := List.mergeSort_perm _ _
theorem lnames_mem {F : Fd} {xs : List Step} (h : xs ≠ []) : ∃ k ∈ lfirstL F xs, (nth xs k).1 = nth (lnamesL F xs) 0 := by
  have hp : (lnamesL F xs).Perm ((lfirstL F xs).map fun k => (nth xs k).1) := srtO_perm
  have hl : 0 < (lnamesL F xs).length := by
    rw [hp.length_eq, List.length_map]
    exact List.length_pos_iff.mpr (List.ne_nil_of_mem (lfirstL_ne h))
  have hm : nth (lnamesL F xs) 0 ∈ lnamesL F xs := by rw [getD_of hl]; exact List.getElem_mem hl
  obtain ⟨k, h1, h2⟩ := List.mem_map.mp (hp.mem_iff.mp hm)
  exact ⟨k, h1, h2⟩
theorem lpick_mem {F : Fd} {xs : List Step} (h : xs ≠ []) : lpickL F xs ∈ (lfirstL F xs).filter (fun k => decide ((nth xs k).1 = nth (lnamesL F xs) 0)) := by
  obtain ⟨k, h1, h2⟩ := lnames_mem (F := F) h
  have hm : k ∈ (lfirstL F xs).filter (fun k => decide ((nth xs k).1 = nth (lnamesL F xs) 0)) := List.mem_filter.mpr ⟨h1, decide_eq_true h2⟩
  have hl := List.length_pos_iff.mpr (List.ne_nil_of_mem hm)
  unfold lpickL
  rw [getD_of hl]
  exact List.getElem_mem hl
theorem lpick_lt {F : Fd} {xs : List Step} (h : xs ≠ []) : lpickL F xs < xs.length := lfirstL_lt (List.mem_filter.mp (lpick_mem (F := F) h)).1
abbrev llBody : List S := [.asg (.n 4) (.srt false (.lc false [5] (.n 5) (.it (.call false 22 [.v 0, .v 2])) [] (.idx (.idx (.v 2) (.v 5)) (.c (.int 0))))),
    .asg (.n 6) (.idx (.lc false [5] (.n 5) (.it (.call false 22 [.v 0, .v 2])) [.cmp .Eq (.idx (.idx (.v 2) (.v 5)) (.c (.int 0))) (.idx (.v 4) (.c (.int 0)))] (.v 5)) (.c (.int 0))),
    .ex (.app (.v 3) (.popAt (.v 2) (.v 6)))]
abbrev pLLeast (F0 : Fn) : Prop := ∀ (F : Fd) (xs : List Step) (sq : List IV → IV), (sq = .tup ∨ sq = .lst) → xs.length < 900000 → F0.run [.iv F.iv, .iv (sq (xs.map iv))] [] = .ok (.iv (.tup ((lleastL F xs).map iv))) []
theorem lleast_turn {fs : FS} (h : Sp0 fs 22 [false, false] pLFirst) {F : Fd} {S0 : PV} {ys acc : List Step} (hne : ys ≠ []) (hl : ys.length < 900000) (ha : acc.length < 900000) {p4 p6 : Option PV} :
    ∃ q4 q6, denSs fs llBody [some (.iv F.iv), some S0, some (.ref 0), some (.ref 1), p4, none, p6] [.lst (ys.map iv), .lst (acc.map iv)] = .nx [some (.iv F.iv), some S0, some (.ref 0), some (.ref 1), q4, none, q6] [.lst ((ys.eraseIdx (lpickL F ys)).map iv), .lst ((acc ++ [nth ys (lpickL F ys)]).map iv)] := by
  have hp := lpick_lt (F := F) hne
  have hfl : (lfirstL F ys).length ≤ ys.length := by
    unfold lfirstL
    exact Nat.le_trans (List.length_filter_le _ _) (by simp)
  have cf : callN fs false 22 [.iv F.iv, .ref 0] [.lst (ys.map iv), .lst (acc.map iv)] = .ok (.iv (.lst ((lfirstL F ys).map fun k : Nat => IV.int (k : Int)))) [.lst (ys.map iv), .lst (acc.map iv)] := by
    rw [Sp0.r2 (a := F.iv) (b := .lst (ys.map iv)) (v := .ob (.lst ((lfirstL F ys).map fun k : Nat => IV.int (k : Int)))) h rfl rfl (fun F0 q => q F ys .lst (.inr rfl) hl) (noLs_ints _), adopt_fob]
  have c1 : compGo (compStep [5] (.n 5) (wipeE [some (.iv F.iv), some S0, some (.ref 0), some (.ref 1), p4, none, p6] [5]) (denTs fs []) (denE fs (.idx (.idx (.v 2) (.v 5)) (.c (.int 0))))) ((lfirstL F ys).map fun k : Nat => IV.int (k : Int)) [] [.lst (ys.map iv), .lst (acc.map iv)] = .ok (((lfirstL F ys).map fun k => (nth ys k).1).map iv) [.lst (ys.map iv), .lst (acc.map iv)] := by
    rw [compGo_m (g := fun k : Nat => iv (nth ys k).1)]
    · simp [List.map_map, Function.comp_def]
    · intro k hk
      have hk' := lfirstL_lt hk
      simp [compStep, wipeE, idx_ref (os := [.lst (ys.map iv), .lst (acc.map iv)]) (k := 0) (xs := ys.map iv) rfl, atI_map hk', getD_of hk']
    · omega
  have c2 := sort_o (α := Nm) (xs := (lfirstL F ys).map fun k => (nth ys k).1) (by decide) (by simp; omega)
  have hs1 : denS fs (.asg (.n 4) (.srt false (.lc false [5] (.n 5) (.it (.call false 22 [.v 0, .v 2])) [] (.idx (.idx (.v 2) (.v 5)) (.c (.int 0)))))) [some (.iv F.iv), some S0, some (.ref 0), some (.ref 1), p4, none, p6] [.lst (ys.map iv), .lst (acc.map iv)] = .nx [some (.iv F.iv), some S0, some (.ref 0), some (.ref 1), some (.iv (.lst ((lnamesL F ys).map iv))), none, p6] [.lst (ys.map iv), .lst (acc.map iv)] := by
    rw [s_asg, e_srt, e_lc, i_it, e_call]
    simp only [ps_cons, ps_nil, e_v, getV_succ, getV_zero, bind_ok, cf, asIv_iv, itIV, lift_some, c1, mk_false, srtF, rd, c2, toSR_ok]
    rfl
  have hnl : 0 < (lnamesL F ys).length := by
    have hpm : (lnamesL F ys).Perm ((lfirstL F ys).map fun k => (nth ys k).1) := srtO_perm
    rw [hpm.length_eq, List.length_map]
    exact List.length_pos_iff.mpr (List.ne_nil_of_mem (lfirstL_ne hne))
  have c3 : compGo (compStep [5] (.n 5) (wipeE [some (.iv F.iv), some S0, some (.ref 0), some (.ref 1), some (.iv (.lst ((lnamesL F ys).map iv))), none, p6] [5]) (denTs fs [.cmp .Eq (.idx (.idx (.v 2) (.v 5)) (.c (.int 0))) (.idx (.v 4) (.c (.int 0)))]) (denE fs (.v 5))) ((lfirstL F ys).map fun k : Nat => IV.int (k : Int)) [] [.lst (ys.map iv), .lst (acc.map iv)] = .ok (((lfirstL F ys).filter fun k => decide ((nth ys k).1 = nth (lnamesL F ys) 0)).map fun k : Nat => IV.int (k : Int)) [.lst (ys.map iv), .lst (acc.map iv)] := by
    refine compGo_f (p := fun k => decide ((nth ys k).1 = nth (lnamesL F ys) 0)) (g := fun k : Nat => IV.int (k : Int)) (lfirstL F ys) (fun k hk => ?_) (by omega)
    have hk' := lfirstL_lt hk
    have ce : ∀ os, cmpPV os .Eq (.iv (iv ys[k].1)) (.iv (iv (lnamesL F ys)[0])) = some (decide (ys[k].1 = (lnamesL F ys)[0])) := fun os => cmp_eq (by decide)
    have a0 : atI ((lnamesL F ys).map iv) 0 = some (iv (lnamesL F ys)[0]) := by
      have := atI_map hnl
      exact this
    rw [getD_of hk', getD_of hnl]
    by_cases q : ys[k].1 = (lnamesL F ys)[0]
    · rw [decide_eq_true q] at ce
      rw [decide_eq_true q]
      simp [compStep, wipeE, idx_ref (os := [.lst (ys.map iv), .lst (acc.map iv)]) (k := 0) (xs := ys.map iv) rfl, atI_map hk', a0, ce]
    · rw [decide_eq_false q] at ce
      rw [decide_eq_false q]
      simp [compStep, wipeE, idx_ref (os := [.lst (ys.map iv), .lst (acc.map iv)]) (k := 0) (xs := ys.map iv) rfl, atI_map hk', a0, ce]
  have hfl2 : 0 < ((lfirstL F ys).filter fun k => decide ((nth ys k).1 = nth (lnamesL F ys) 0)).length := List.length_pos_iff.mpr (List.ne_nil_of_mem (lpick_mem (F := F) hne))
  have a1 : atI (((lfirstL F ys).filter fun k => decide ((nth ys k).1 = nth (lnamesL F ys) 0)).map fun k : Nat => IV.int (k : Int)) 0 = some (.int (lpickL F ys : Int)) := by
    have e0 : lpickL F ys = ((lfirstL F ys).filter fun k => decide ((nth ys k).1 = nth (lnamesL F ys) 0))[0] := by unfold lpickL; exact getD_of hfl2
    have := atI_get (xs := ((lfirstL F ys).filter fun k => decide ((nth ys k).1 = nth (lnamesL F ys) 0)).map fun k : Nat => IV.int (k : Int)) (i := 0) (by simpa using hfl2)
    rw [e0]
    simpa using this
  have hs2 : denS fs (.asg (.n 6) (.idx (.lc false [5] (.n 5) (.it (.call false 22 [.v 0, .v 2])) [.cmp .Eq (.idx (.idx (.v 2) (.v 5)) (.c (.int 0))) (.idx (.v 4) (.c (.int 0)))] (.v 5)) (.c (.int 0)))) [some (.iv F.iv), some S0, some (.ref 0), some (.ref 1), some (.iv (.lst ((lnamesL F ys).map iv))), none, p6] [.lst (ys.map iv), .lst (acc.map iv)] = .nx [some (.iv F.iv), some S0, some (.ref 0), some (.ref 1), some (.iv (.lst ((lnamesL F ys).map iv))), none, some (.iv (.int (lpickL F ys)))] [.lst (ys.map iv), .lst (acc.map iv)] := by
    rw [s_asg, e_idx, e_lc, i_it, e_call]
    simp only [ps_cons, ps_nil, e_v, e_c, getV_succ, getV_zero, bind_ok, cf, asIv_iv, itIV, lift_some, c3, mk_false, idx_lst, a1, Option.map_some, toSR_ok]
    rfl
  have ix : ixN ys.length (lpickL F ys : Int) = some (lpickL F ys) := ixN_pos (by omega) (by simpa using hp)
  have sz : acc.length ≤ 16777215 := by omega
  have sy : ys.length ≤ 16777216 := by omega
  refine ⟨some (.iv (.lst ((lnamesL F ys).map iv))), some (.iv (.int (lpickL F ys))), ?_⟩
  rw [z_cons, hs1, then_nx, z_cons, hs2, then_nx]
  simp [isL, popAtF, ix, szOk, sy, List.getElem?_eq_getElem hp, appF, sz, map_eraseIdx, getD_of hp]
theorem lleast_loop {fs : FS} (h : Sp0 fs 22 [false, false] pLFirst) {F : Fd} {S0 : PV} : ∀ (n : Nat) (ys acc : List Step) (m : Nat) (p4 p6 : Option PV), ys.length = n → n < m → acc.length + n < 900000 → ∃ q4 q6, whlGo (denE fs (.cmp .NotEq (.v 2) (.lst false []))) (denSs fs llBody) m [some (.iv F.iv), some S0, some (.ref 0), some (.ref 1), p4, none, p6] [.lst (ys.map iv), .lst (acc.map iv)] = .nx [some (.iv F.iv), some S0, some (.ref 0), some (.ref 1), q4, none, q6] [.lst [], .lst ((acc ++ larrL F n ys).map iv)] := by
  intro n
  induction n with
  | zero =>
    intro ys acc m p4 p6 hy hm _
    obtain ⟨m, rfl⟩ : ∃ j, m = j + 1 := ⟨m - 1, by omega⟩
    have : ys = [] := List.length_eq_zero_iff.mp hy
    subst this
    refine ⟨p4, p6, ?_⟩
    have c : cmpPV [.lst [], .lst (acc.map iv)] .NotEq (.ref 0) (.iv (.lst [])) = some false := cmp_ne_nil (xs := []) rfl
    rw [whl_end (os1 := [.lst [], .lst (acc.map iv)]) (by simp [szOk, c])]
    simp [larrL]
  | succ n ih =>
    intro ys acc m p4 p6 hy hm ha
    obtain ⟨m, rfl⟩ : ∃ j, m = j + 1 := ⟨m - 1, by omega⟩
    have hne : ys ≠ [] := fun z => by rw [z] at hy; simp at hy
    have hp := lpick_lt (F := F) hne
    have c : cmpPV [.lst (ys.map iv), .lst (acc.map iv)] .NotEq (.ref 0) (.iv (.lst [])) = some true := by rw [cmp_ne_nil (xs := ys) rfl]; simp [hne]
    obtain ⟨q4, q6, et⟩ := lleast_turn h (F := F) (S0 := S0) (p4 := p4) (p6 := p6) (ys := ys) (acc := acc) hne (by omega) (by omega)
    obtain ⟨r4, r6, e⟩ := ih (ys.eraseIdx (lpickL F ys)) (acc ++ [nth ys (lpickL F ys)]) m q4 q6 (by rw [List.length_eraseIdx_of_lt hp]; omega) (by omega) (by simp; omega)
    refine ⟨r4, r6, ?_⟩
    rw [whl_step (os1 := [.lst (ys.map iv), .lst (acc.map iv)]) (by simp [szOk, c]) et, e]
    simp [larrL, hne]
theorem run_lleast {fs : FS} (h : Sp0 fs 22 [false, false] pLFirst) (h2 : Sp0 fs 21 [false, false] pLPile) : pLLeast (fnD fs d_law_least) := by
  intro F xs sq hq hl
  have hlen := lpileL_len (F := F) (n := xs.length) (xs := xs)
  obtain ⟨q4, q6, e⟩ := lleast_loop h (F := F) (S0 := .iv (sq (xs.map iv))) (lpileL F xs.length xs).length (lpileL F xs.length xs) [] WF none none rfl (by unfold WF; omega) (by simp; omega)
  have c : callN fs true 21 [.iv F.iv, .iv (sq (xs.map iv))] [] = .ok (.ref 0) [.lst ((lpileL F xs.length xs).map iv)] := by
    rw [Sp0.c2 h2 fun F0 q => q F xs sq hq hl, adopt_tlst]; rfl
  rw [fnD_run]
  show finish 0 (denSs fs [.par [2, 3] [.call true 21 [.v 0, .v 1], .lst true []], .whl (.cmp .NotEq (.v 2) (.lst false [])) llBody, .ret (.bi .tuple [.v 3])] [some (.iv F.iv), some (.iv (sq (xs.map iv))), none, none, none, none, none] []) = _
  have s1 : denS fs (.par [2, 3] [.call true 21 [.v 0, .v 1], .lst true []]) [some (.iv F.iv), some (.iv (sq (xs.map iv))), none, none, none, none, none] [] = .nx [some (.iv F.iv), some (.iv (sq (xs.map iv))), some (.ref 0), some (.ref 1), none, none, none] [.lst ((lpileL F xs.length xs).map iv), .lst []] := by
    simp [c, szOk, setAll]
  simp only [List.map_nil, List.nil_append] at e
  rw [z_cons, s1, then_nx, z_cons, s_whl, e, then_nx]
  simp [biF, rdAll, rd, biIV, lleastL]
end DP

set_option Elab.async false
set_option linter.all false
set_option maxRecDepth 100000
set_option maxHeartbeats 1000000
/-! Sp13: mixed and folded numbers. -/
namespace DP
open PySem L2
open En (iv da)

section
variable {os : OS} {a b : Int}
theorem bin_mul_l (h : bit64 a = true) : binF .Mult (.iv (.int a)) (.iv (.int b)) os = .ok (.iv (.int (a * b))) os := by simp [binF, rd, binIV, h]
theorem bin_mul_r (h : bit64 b = true) : binF .Mult (.iv (.int a)) (.iv (.int b)) os = .ok (.iv (.int (a * b))) os := by simp [binF, rd, binIV, h]
theorem bin_mod (h : 0 < b) : binF .Mod (.iv (.int a)) (.iv (.int b)) os = .ok (.iv (.int (a % b))) os := by simp [binF, rd, binIV, h]
theorem bin_div (h : 0 < b) (h2 : b < 1073741824) : binF .FloorDiv (.iv (.int a)) (.iv (.int b)) os = .ok (.iv (.int (a / b))) os := by simp [binF, rd, binIV, h, h2]
theorem bit64_of (h : -1000000000000000000 ≤ a) (h2 : a ≤ 5000000000000000000) : bit64 a = true := by simp [bit64]; omega
end
theorem run_mixed {fs : FS} : IntFn2 (fnD fs d_law_mixed) (fun _ n => 0 ≤ n ∧ n < 2305843009213693952) mixed := by
  refine ⟨rfl, fun c n ⟨h0, h1⟩ => ?_⟩
  have e1 : ∀ os, binF .Mult (.iv (.int 2)) (.iv (.int n)) os = .ok (.iv (.int (2 * n))) os := fun os => bin_mul_l rfl
  have e2 : ∀ os, binF .Mult (.iv (.int c)) (.iv (.int (1 + 2 * n))) os = .ok (.iv (.int (c * (1 + 2 * n)))) os := fun os => bin_mul_r (by simp [bit64]; omega)
  have e3 : ∀ x os, binF .Mult (.iv (.int x)) (.iv (.int 48271)) os = .ok (.iv (.int (x * 48271))) os := fun x os => bin_mul_r rfl
  have e4 : ∀ x os, binF .Mod (.iv (.int x)) (.iv (.int 2147483647)) os = .ok (.iv (.int (x % 2147483647))) os := fun x os => bin_mod (by decide)
  have e5 : ∀ os, binF .Mult (.iv (.int 7919)) (.iv (.int n)) os = .ok (.iv (.int (7919 * n))) os := fun os => bin_mul_l rfl
  have e6 : ∀ os, binF .Mult (.iv (.int (7919 * n))) (.iv (.int n)) os = .ok (.iv (.int (7919 * n * n))) os := fun os => bin_mul_r (by simp [bit64]; omega)
  have e7 : ∀ os, binF .Mult (.iv (.int 104729)) (.iv (.int n)) os = .ok (.iv (.int (104729 * n))) os := fun os => bin_mul_l rfl
  have e8 : ∀ x os, binF .Mult (.iv (.int x)) (.iv (.int 69621)) os = .ok (.iv (.int (x * 69621))) os := fun x os => bin_mul_r rfl
  have e9 : ∀ x os, binF .Mod (.iv (.int x)) (.iv (.int 2147483629)) os = .ok (.iv (.int (x % 2147483629))) os := fun x os => bin_mod (by decide)
  have e10 : ∀ x os, binF .FloorDiv (.iv (.int x)) (.iv (.int 7)) os = .ok (.iv (.int (x / 7))) os := fun x os => bin_div (by decide) (by decide)
  have hasg : ∀ x : Int, asgP (.n 2) (.iv (.int x)) [some (.iv (.int c)), some (.iv (.int n)), none] = some [some (.iv (.int c)), some (.iv (.int n)), some (.iv (.int x))] := fun _ => rfl
  rw [fnD_run]
  show finish 0 (denSs fs [.asg (.n 2) _, .ret _] [some (.iv (.int c)), some (.iv (.int n)), none] []) = _
  simp only [z_cons, z_nil, s_asg, s_ret, e_bin, e_bi, ps_cons, ps_nil, e_v, e_c, getV_zero, getV_succ, bind_ok, e1, e2, e3, e4, e5, e6, e7, e8, e9, e10, bin_add_int, int_int, toSR_ok, hasg, asgO_some, then_nx, then_rt]
  rfl
/-! ### folded -/
theorem sub_ref {k : Nat} {os : OS} {xs : List IV} {i : Nat} {z : IV} {env : Env} (ho : os[k]? = some (.lst xs)) (hi : i < xs.length) : subS (.ref k) (.iv (.int (i : Int))) z env os = .nx env (os.set k (.lst (xs.set i z))) := by
  have ix : ixN xs.length (i : Int) = some i := ixN_pos (by omega) (by simpa using hi)
  simp [subS, setF, ho, ix]
theorem run_folded {fs : FS} {ns : List Int} (hl : ns.length ≤ 100000) : ∃ cells : List Int, cells.length = 64 ∧ (fnD fs d_law_folded).run [.iv (.scr ns)] [] = .ok (.ob (.lst (cells.map iv))) [] := by
  have e3 : ∀ x os, binF .Mult (.iv (.int x)) (.iv (.int 48271)) os = .ok (.iv (.int (x * 48271))) os := fun x os => bin_mul_r rfl
  have e4 : ∀ x os, binF .Mod (.iv (.int x)) (.iv (.int 2147483647)) os = .ok (.iv (.int (x % 2147483647))) os := fun x os => bin_mod (by decide)
  have e5 : ∀ x os, binF .Mult (.iv (.int x)) (.iv (.int 16807)) os = .ok (.iv (.int (x * 16807))) os := fun x os => bin_mul_r rfl
  have e6 : ∀ x os, binF .Mod (.iv (.int x)) (.iv (.int 64)) os = .ok (.iv (.int (x % 64))) os := fun x os => bin_mod (by decide)
  have l1 : ∀ (ys : List Int) (k : Nat) (cells : List Int) (p q : Option PV), cells.length = 64 → ∃ (cells' : List Int) (p' q' : Option PV), cells'.length = 64 ∧ forGo (turnF fs (.t [.n 2, .n 3]) [.sub (.v 1) (.bin .Mod (.bi .int [.v 2]) (.c (.int 64))) (.bin .Mod (.bi .int [.bin .Add (.bin .Mult (.idx (.v 1) (.bin .Mod (.bi .int [.v 2]) (.c (.int 64)))) (.c (.int 48271))) (.v 3)]) (.c (.int 2147483647)))]) (enumL k (ys.map IV.int))
      [some (.iv (.scr ns)), some (.ref 0), p, q] [.lst (cells.map iv)] = .nx [some (.iv (.scr ns)), some (.ref 0), p', q'] [.lst (cells'.map iv)] := by
    intro ys
    induction ys with
    | nil => intro k cells p q hc; exact ⟨cells, p, q, hc, rfl⟩
    | cons y ys ih =>
      intro k cells p q hc
      obtain ⟨i, hi⟩ : ∃ i : Nat, (k : Int) % 64 = (i : Int) := ⟨((k : Int) % 64).toNat, by omega⟩
      have hi' : i < cells.length := by omega
      obtain ⟨cells', p', q', h1, h2⟩ := ih (k + 1) (cells.set i ((cells[i] * 48271 + y) % 2147483647)) (some (.iv (.int k))) (some (.iv (.int y))) (by simpa using hc)
      refine ⟨cells', p', q', h1, ?_⟩
      rw [← h2]
      have tn : turnF fs (.t [.n 2, .n 3]) [.sub (.v 1) (.bin .Mod (.bi .int [.v 2]) (.c (.int 64))) (.bin .Mod (.bi .int [.bin .Add (.bin .Mult (.idx (.v 1) (.bin .Mod (.bi .int [.v 2]) (.c (.int 64)))) (.c (.int 48271))) (.v 3)]) (.c (.int 2147483647)))] (.tup [.int k, .int y]) [some (.iv (.scr ns)), some (.ref 0), p, q] [.lst (cells.map iv)] = .nx [some (.iv (.scr ns)), some (.ref 0), some (.iv (.int k)), some (.iv (.int y))] [.lst ((cells.set i ((cells[i] * 48271 + y) % 2147483647)).map iv)] := by
        have et : asgT (.t [.n 2, .n 3]) (.tup [.int k, .int y]) [some (.iv (.scr ns)), some (.ref 0), p, q] = some [some (.iv (.scr ns)), some (.ref 0), some (.iv (.int k)), some (.iv (.int y))] := rfl
        have ei := idx_ref (os := [.lst (cells.map iv)]) (k := 0) (xs := cells.map iv) (i := (i : Int)) rfl
        rw [atI_map hi'] at ei
        have es := sub_ref (os := [.lst (cells.map iv)]) (k := 0) (xs := cells.map iv) (i := i) (z := .int ((cells[i] * 48271 + y) % 2147483647)) (env := [some (.iv (.scr ns)), some (.ref 0), some (.iv (.int k)), some (.iv (.int y))]) rfl (by simpa using hi')
        simp only [turnF, et, z_cons, z_nil, s_sub, e_bin, e_bi, ps_cons, ps_nil, e_v, e_c, e_idx, getV_zero, getV_succ, bind_ok, int_int, e6, hi, ei, Option.map_some, lift_some, iv_int, e3, bin_add_int, e4, toSR_ok, es, then_nx]
        rw [List.map_set]
        rfl
      simp only [List.map_cons, enumL, forGo, tn]
  have l2 : ∀ (d k : Nat) (cells : List Int) (p q : Option PV), cells.length = 64 → 1 ≤ k → k + d ≤ 64 → ∃ (cells' : List Int) (p' q' : Option PV), cells'.length = 64 ∧ forGo (turnF fs (.n 2) [.sub (.v 1) (.v 2) (.bin .Mod (.bi .int [.bin .Add (.idx (.v 1) (.v 2)) (.bin .Mult (.idx (.v 1) (.bin .Sub (.v 2) (.c (.int 1)))) (.c (.int 16807)))]) (.c (.int 2147483647)))]) (rngL k d)
      [some (.iv (.scr ns)), some (.ref 0), p, q] [.lst (cells.map iv)] = .nx [some (.iv (.scr ns)), some (.ref 0), p', q'] [.lst (cells'.map iv)] := by
    intro d
    induction d with
    | zero => intro k cells p q hc _ _; exact ⟨cells, p, q, hc, by simp [rngL, forGo]⟩
    | succ d ih =>
      intro k cells p q hc hk hkd
      have h1 : k < cells.length := by omega
      have h2 : k - 1 < cells.length := by omega
      obtain ⟨cells', p', q', g1, g2⟩ := ih (k + 1) (cells.set k ((cells[k] + cells[k - 1] * 16807) % 2147483647)) (some (.iv (.int k))) q (by simpa using hc) (by omega) (by omega)
      refine ⟨cells', p', q', g1, ?_⟩
      have e2 : ((k : Int) + 1) = ((k + 1 : Nat) : Int) := by omega
      rw [← g2, rngL_succ, e2]
      have tn : turnF fs (.n 2) [.sub (.v 1) (.v 2) (.bin .Mod (.bi .int [.bin .Add (.idx (.v 1) (.v 2)) (.bin .Mult (.idx (.v 1) (.bin .Sub (.v 2) (.c (.int 1)))) (.c (.int 16807)))]) (.c (.int 2147483647)))] (.int k) [some (.iv (.scr ns)), some (.ref 0), p, q] [.lst (cells.map iv)] = .nx [some (.iv (.scr ns)), some (.ref 0), some (.iv (.int k)), q] [.lst ((cells.set k ((cells[k] + cells[k - 1] * 16807) % 2147483647)).map iv)] := by
        have et : asgT (.n 2) (.int k) [some (.iv (.scr ns)), some (.ref 0), p, q] = some [some (.iv (.scr ns)), some (.ref 0), some (.iv (.int k)), q] := rfl
        have ei := idx_ref (os := [.lst (cells.map iv)]) (k := 0) (xs := cells.map iv) (i := (k : Int)) rfl
        rw [atI_map h1] at ei
        have ej := idx_ref (os := [.lst (cells.map iv)]) (k := 0) (xs := cells.map iv) (i := ((k - 1 : Nat) : Int)) rfl
        rw [atI_map h2] at ej
        have ek : (k : Int) - 1 = ((k - 1 : Nat) : Int) := by omega
        have es := sub_ref (os := [.lst (cells.map iv)]) (k := 0) (xs := cells.map iv) (i := k) (z := .int ((cells[k] + cells[k - 1] * 16807) % 2147483647)) (env := [some (.iv (.scr ns)), some (.ref 0), some (.iv (.int k)), q]) rfl (by simpa using h1)
        simp only [turnF, et, z_cons, z_nil, s_sub, e_bin, e_bi, ps_cons, ps_nil, e_v, e_c, e_idx, getV_zero, getV_succ, bind_ok, int_int, ei, ek, ej, bin_sub_int, Option.map_some, lift_some, iv_int, e5, bin_add_int, e4, toSR_ok, es, then_nx]
        rw [List.map_set]
        rfl
      simp only [forGo, tn]
  have s1 : denS fs (.asg (.n 1) (.lc true [2] (.n 2) (.rng1 (.c (.int 64))) [] (.bin .Add (.c (.int 17)) (.v 2)))) [some (.iv (.scr ns)), none, none, none] [] = .nx [some (.iv (.scr ns)), some (.ref 0), none, none] [.lst (((List.range 64).map fun i : Nat => (17 : Int) + (0 + (i : Int))).map iv)] := by
    have cc : compGo (compStep [2] (.n 2) (wipeE [some (.iv (.scr ns)), none, none, none] [2]) (denTs fs []) (denE fs (.bin .Add (.c (.int 17)) (.v 2)))) (rngL 0 64) [] [] = .ok ((List.range 64).map fun i : Nat => IV.int (17 + (0 + (i : Int)))) [] := by
      rw [rngL_map]
      exact compGo_m (g := fun i : Nat => IV.int (17 + (0 + (i : Int)))) _ (fun i _ => by rfl) (by simp)
    have hi : denI fs (.rng1 (.c (.int 64))) [some (.iv (.scr ns)), none, none, none] [] = .ok (rngL 0 64) [] := by
      rw [i_rng1, e_c, bind_ok, rng1_int (rngOk_of (by omega) (by omega))]; rfl
    rw [s_asg, e_lc, hi, bind_ok, cc, bind_ok, mk_true, toSR_ok]
    rw [List.map_map]
    rfl
  obtain ⟨c1, p1, q1, g1, g2⟩ := l1 ns 0 ((List.range 64).map fun i : Nat => (17 : Int) + (0 + (i : Int))) none none (by simp)
  obtain ⟨c2, p2, q2, g3, g4⟩ := l2 63 1 c1 p1 q1 g1 (by omega) (by omega)
  refine ⟨c2, g3, ?_⟩
  rw [fnD_run]
  show finish 0 (denSs fs [.asg (.n 1) (.lc true [2] (.n 2) (.rng1 (.c (.int 64))) [] (.bin .Add (.c (.int 17)) (.v 2))), .for (.t [.n 2, .n 3]) (.enum (.v 0)) _, .for (.n 2) (.rng2 (.c (.int 1)) (.c (.int 64))) _, .ret (.v 1)] [some (.iv (.scr ns)), none, none, none] []) = _
  have h2 : ∀ bd, denS fs (.for (.t [.n 2, .n 3]) (.enum (.v 0)) bd) [some (.iv (.scr ns)), some (.ref 0), none, none] [.lst (((List.range 64).map fun i : Nat => (17 : Int) + (0 + (i : Int))).map iv)] = forGo (turnF fs (.t [.n 2, .n 3]) bd) (enumL 0 (ns.map IV.int)) [some (.iv (.scr ns)), some (.ref 0), none, none] [.lst (((List.range 64).map fun i : Nat => (17 : Int) + (0 + (i : Int))).map iv)] := by
    intro bd
    rw [s_for, i_enum, e_v, getV_zero, bind_ok, asIv_iv]
    rfl
  have h3 : ∀ bd, denS fs (.for (.n 2) (.rng2 (.c (.int 1)) (.c (.int 64))) bd) [some (.iv (.scr ns)), some (.ref 0), p1, q1] [.lst (c1.map iv)] = forGo (turnF fs (.n 2) bd) (rngL ((1 : Nat) : Int) 63) [some (.iv (.scr ns)), some (.ref 0), p1, q1] [.lst (c1.map iv)] := by
    intro bd
    rw [s_for, i_rng2, e_c, bind_ok, e_c, bind_ok, rng2_int (rngOk_of (by omega) (by omega)) (rngOk_of (by omega) (by omega)), toSR_ok]
    rfl
  rw [z_cons, s1, then_nx, z_cons, h2, g2, then_nx, z_cons, h3, g4, then_nx, z_cons, s_ret, e_v, getV_succ, getV_zero, toSR_ok, then_rt]
  simp [finish, notDead]
end DP

set_option Elab.async false
set_option linter.all false
set_option maxRecDepth 100000
set_option maxHeartbeats 1000000
/-! Mt1: words of steps: changes of neighbours that are apart; piles. -/
namespace DP
open PySem L2

/-! ### apart -/
theorem Fd.ap_comm (F : Fd) (a b : Nm) : F.ap a b = F.ap b a := by unfold Fd.ap; exact Bool.or_comm _ _
/-- no name is apart from itself -/
def Irr (F : Fd) : Prop := ∀ a, F.ap a a = false
theorem VF.irr {F : Fd} (v : VF F) : Irr F := fun a => by
  have h : hasB (a, a) F.pairs = false := hasB_false.mpr fun h => nm_irrefl a (v.pr _ h).2.2
  simp [Fd.ap, h]
/-! ### words that come from one another by changes: the same rows of each two names that touch -/
def fl (a b : Nm) (s : Step) : Bool := decide (s.1 = a) || decide (s.1 = b)
def SE (F : Fd) (u v : List Step) : Prop := ∀ a b, F.ap a b = false → u.filter (fl a b) = v.filter (fl a b)
section
variable {F : Fd} {u v w u' v' : List Step} {s t : Step}
theorem SE.refl : SE F u u := fun _ _ _ => rfl
theorem SE.symm (h : SE F u v) : SE F v u := fun a b q => (h a b q).symm
theorem SE.trans (h : SE F u v) (k : SE F v w) : SE F u w := fun a b q => (h a b q).trans (k a b q)
theorem SE.app (h : SE F u v) (k : SE F u' v') : SE F (u ++ u') (v ++ v') := fun a b q => by rw [List.filter_append, List.filter_append, h a b q, k a b q]
theorem SE.cons (h : SE F u v) : SE F (s :: u) (s :: v) := SE.app (u := [s]) (v := [s]) .refl h
theorem SE.rev (h : SE F u v) : SE F u.reverse v.reverse := fun a b q => by rw [List.filter_reverse, List.filter_reverse, h a b q]
theorem fl_self {a b : Nm} : fl a b s = true ↔ s.1 = a ∨ s.1 = b := by simp [fl]
/-- steps that are all apart from one -/
def AllAp (F : Fd) (u : List Step) (a : Nm) : Prop := ∀ x ∈ u, F.ap x.1 a = true
theorem AllAp.filter_nil (irr : Irr F) {a b c : Nm} (h : AllAp F u c) (hc : c = a ∨ c = b) (q : F.ap a b = false) : u.filter (fl a b) = [] := by
  rw [List.filter_eq_nil_iff]
  intro x hx hf
  have hx' := h x hx
  rcases fl_self.mp hf with e | e <;> rcases hc with e' | e'
  · rw [e, e', irr] at hx'; cases hx'
  · rw [e, e', q] at hx'; cases hx'
  · rw [e, e', F.ap_comm, q] at hx'; cases hx'
  · rw [e, e', irr] at hx'; cases hx'
theorem SE.front (irr : Irr F) (h : AllAp F u s.1) : SE F (u ++ s :: v) (s :: (u ++ v)) := fun a b q => by
  by_cases hs : fl a b s = true
  · have := h.filter_nil irr (by rcases fl_self.mp hs with e | e <;> simp [e]) q
    simp [List.filter_append, List.filter_cons, hs, this]
  · simp [List.filter_append, List.filter_cons, hs]
theorem SE.last (irr : Irr F) (h : AllAp F v s.1) : SE F (u ++ s :: v) (u ++ v ++ [s]) := fun a b q => by
  by_cases hs : fl a b s = true
  · have := h.filter_nil irr (by rcases fl_self.mp hs with e | e <;> simp [e]) q
    simp [List.filter_append, List.filter_cons, hs, this]
  · simp [List.filter_append, List.filter_cons, hs]
theorem SE.perm (irr : Irr F) (h : SE F u v) : u.Perm v := by
  rw [List.perm_iff_count]
  intro x
  have hx := h x.1 x.1 (irr _)
  have k : ∀ l : List Step, l.count x = (l.filter (fl x.1 x.1)).count x := fun l => by rw [List.count_filter (by simp [fl])]
  rw [k u, k v, hx]
/-- the first step of a name -/
theorem split_first (a : Nm) : ∀ (w : List Step), (∃ x ∈ w, x.1 = a) → ∃ u t v, w = u ++ (a, t) :: v ∧ ∀ x ∈ u, x.1 ≠ a
  | [], h => by obtain ⟨x, hx, _⟩ := h; cases hx
  | y :: w, h => by
    by_cases e : y.1 = a
    · exact ⟨[], y.2, w, by rw [← e]; rfl, by simp⟩
    · obtain ⟨x, hx, ex⟩ := h
      rcases List.mem_cons.mp hx with q | q
      · rw [q] at ex; exact absurd ex e
      · obtain ⟨u, t, v, e1, e2⟩ := split_first a w ⟨x, q, ex⟩
        refine ⟨y :: u, t, v, by rw [e1]; rfl, fun z hz => ?_⟩
        rcases List.mem_cons.mp hz with q2 | q2
        · rw [q2]; exact e
        · exact e2 z q2
theorem SE.head (irr : Irr F) (h : SE F (s :: w) w') : ∃ u v, w' = u ++ s :: v ∧ AllAp F u s.1 ∧ SE F w (u ++ v) := by
  have hp := h.perm irr
  obtain ⟨u, t, v, e, hn⟩ := split_first s.1 w' ⟨s, hp.mem_iff.mp List.mem_cons_self, rfl⟩
  have hu : ∀ b, (∀ x ∈ u, x.1 ≠ b) → u.filter (fl s.1 b) = [] := fun b hb => by
    rw [List.filter_eq_nil_iff]
    intro x hx hf
    rcases fl_self.mp hf with q | q
    · exact hn x hx q
    · exact hb x hx q
  have h1 := h s.1 s.1 (irr _)
  rw [e, List.filter_append, hu s.1 hn] at h1
  have hs : fl s.1 s.1 s = true := by simp [fl]
  have ht : fl s.1 s.1 (s.1, t) = true := by simp [fl]
  simp only [List.filter_cons, hs, ht, if_true, List.nil_append, List.cons.injEq] at h1
  have est : (s.1, t) = s := h1.1.symm
  rw [est] at e
  have hap : AllAp F u s.1 := fun x hx => by
    cases q : F.ap x.1 s.1 with
    | true => rfl
    | false =>
      have h2 := h x.1 s.1 q
      rw [e, List.filter_append] at h2
      have hs2 : fl x.1 s.1 s = true := by simp [fl]
      obtain ⟨u1, t1, u2, e1, e2⟩ := split_first x.1 u ⟨x, hx, rfl⟩
      have hz : u1.filter (fl x.1 s.1) = [] := by
        rw [List.filter_eq_nil_iff]
        intro y hy hf
        rcases fl_self.mp hf with z | z
        · exact e2 y hy z
        · exact hn y (by rw [e1]; simp [hy]) z
      have hx2 : fl x.1 s.1 (x.1, t1) = true := by simp [fl]
      rw [e1, List.filter_append, hz] at h2
      simp only [List.filter_cons, hs2, hx2, if_true, List.nil_append, List.cons_append, List.cons.injEq] at h2
      have : s.1 = x.1 := by rw [h2.1]
      exact absurd this.symm (hn x hx)
  refine ⟨u, v, e, hap, fun a b q => ?_⟩
  have h3 := h a b q
  rw [e] at h3
  have h4 := SE.front (v := v) irr hap a b q
  rw [h4] at h3
  by_cases hsf : fl a b s = true
  · simpa [List.filter_cons, hsf] using h3
  · simpa [List.filter_cons, hsf] using h3
theorem AllAp.rev {a : Nm} (h : AllAp F u a) : AllAp F u.reverse a := fun x hx => h x (List.mem_reverse.mp hx)
theorem SE.tail (irr : Irr F) (h : SE F (w ++ [s]) w') : ∃ u v, w' = u ++ s :: v ∧ AllAp F v s.1 ∧ SE F w (u ++ v) := by
  have hr := h.rev
  rw [List.reverse_append] at hr
  obtain ⟨u, v, e, hap, hse⟩ := SE.head irr (show SE F (s :: w.reverse) w'.reverse from hr)
  refine ⟨v.reverse, u.reverse, ?_, hap.rev, ?_⟩
  · have := congrArg List.reverse e
    rw [List.reverse_reverse] at this
    rw [this]; simp
  · have := hse.rev
    simpa using this
theorem SE.nil_left (irr : Irr F) (h : SE F [] w) : w = [] := (h.perm irr).symm.eq_nil
end
end DP

set_option Elab.async false
set_option linter.all false
set_option maxRecDepth 100000
set_option maxHeartbeats 1000000
/-! Mt2: pushing a step on a pile; piles of words that come from one another. -/
namespace DP
open PySem L2

section
variable {F : Fd}
theorem meetN_spec {xs : List Step} {a : Nm} : ∀ k, k ≤ xs.length → (∀ i, meetN F xs a k ≤ i → i < k → F.ap (nth xs i).1 a = true) ∧ (0 < meetN F xs a k → F.ap (nth xs (meetN F xs a k - 1)).1 a = false)
  | 0, _ => ⟨fun i _ h => by omega, fun h => by simp [meetN] at h⟩
  | k + 1, hk => by
    obtain ⟨h1, h2⟩ := meetN_spec (xs := xs) (a := a) k (by omega)
    have e : nth xs k = xs.getD k default := rfl
    unfold meetN
    split
    · rename_i q
      refine ⟨fun i hi hlt => ?_, h2⟩
      by_cases z : i = k
      · rw [z]; exact q
      · exact h1 i hi (by omega)
    · rename_i q
      refine ⟨fun i hi hlt => by omega, fun _ => ?_⟩
      simpa using q
theorem nth_mid {u v : List Step} {s : Step} : nth (u ++ s :: v) u.length = s := by
  rw [getD_of (by simp)]; simp
theorem nth_right {u v : List Step} {s : Step} {i : Nat} (h : u.length < i) (h2 : i < (u ++ s :: v).length) : nth (u ++ s :: v) i ∈ v := by
  rw [getD_of h2, List.getElem_append_right (by omega)]
  obtain ⟨j, hj⟩ : ∃ j, i - u.length = j + 1 := ⟨i - u.length - 1, by omega⟩
  simp only [hj, List.getElem_cons_succ]
  exact List.getElem_mem _
/-- the place at which a piece is met -/
theorem meet_at (irr : Irr F) {u v : List Step} {a : Nm} {t : Int} (h : AllAp F v a) : meetN F (u ++ (a, t) :: v) a (u ++ (a, t) :: v).length = u.length + 1 := by
  obtain ⟨h1, h2⟩ := meetN_spec (F := F) (xs := u ++ (a, t) :: v) (a := a) _ (Nat.le_refl _)
  have hle := meetN_le (F := F) (xs := u ++ (a, t) :: v) (a := a) (u ++ (a, t) :: v).length
  generalize meetN F (u ++ (a, t) :: v) a (u ++ (a, t) :: v).length = p at *
  have hl : (u ++ (a, t) :: v).length = u.length + 1 + v.length := by simp; omega
  rcases Nat.lt_trichotomy p (u.length + 1) with q | q | q
  · have := h1 u.length (by omega) (by omega)
    rw [nth_mid, irr] at this
    cases this
  · exact q
  · have h3 := h2 (by omega)
    have := h _ (nth_right (u := u) (s := (a, t)) (v := v) (i := p - 1) (by omega) (by omega))
    rw [h3] at this
    cases this
theorem pushL_A (irr : Irr F) {u v : List Step} {a : Nm} {t q : Int} (h : AllAp F v a) : pushL F (u ++ (a, t) :: v) (a, q) = if t + q = 0 then u ++ v else u ++ (a, t + q) :: v := by
  unfold pushL
  simp only
  rw [meet_at irr h]
  simp only [Nat.add_sub_cancel, nth_mid, ne_eq, not_true_eq_false, Nat.add_eq_zero_iff, Nat.one_ne_zero, and_false, or_self, if_false]
  split
  · rw [List.eraseIdx_append_of_length_le (Nat.le_refl _)]; simp
  · rw [List.set_append_right _ _ (Nat.le_refl _)]; simp
def LastP (F : Fd) (xs : List Step) (a : Nm) : Prop := ∃ u t v, xs = u ++ (a, t) :: v ∧ AllAp F v a
theorem pushL_B (irr : Irr F) {xs : List Step} {a : Nm} {q : Int} (h : ¬ LastP F xs a) : pushL F xs (a, q) = xs ++ [(a, q)] := by
  unfold pushL
  rw [if_pos]
  simp only
  obtain ⟨h1, h2⟩ := meetN_spec (F := F) (xs := xs) (a := a) _ (Nat.le_refl _)
  have hle := meetN_le (F := F) (xs := xs) (a := a) xs.length
  generalize meetN F xs a xs.length = p at *
  by_cases hp : p = 0
  · exact .inl hp
  · refine .inr fun e => h ⟨xs.take (p - 1), (nth xs (p - 1)).2, xs.drop p, ?_, fun x hx => ?_⟩
    · have hk : p - 1 < xs.length := by omega
      have e1 := drop_cons_of hk
      rw [show p - 1 + 1 = p by omega] at e1
      have e2 : (a, (nth xs (p - 1)).2) = nth xs (p - 1) := by rw [← e]
      rw [e2, ← e1, List.take_append_drop]
    · obtain ⟨i, hi, rfl⟩ := List.getElem_of_mem hx
      have hi2 : i < xs.length - p := by simpa using hi
      have := h1 (p + i) (by omega) (by omega)
      rw [getD_of (by omega)] at this
      simpa using this
def Red (F : Fd) (xs : List Step) : Prop := ∀ u a t v t' w, xs = u ++ (a, t) :: (v ++ (a, t') :: w) → ¬ AllAp F v a
def NZ (xs : List Step) : Prop := ∀ s ∈ xs, s.2 ≠ 0
theorem Red.nil : Red F [] := fun u a t v t' w e => by simp at e
theorem NZ.nil : NZ [] := fun s h => by cases h
theorem Red.insert {p q : List Step} {x : Step} (h : Red F (p ++ x :: q)) (hx : AllAp F p x.1 ∨ AllAp F q x.1) : Red F (p ++ q) := by
  intro u b t1 v t2 w e hv
  rcases List.append_eq_append_iff.mp e with ⟨c, e1, e2⟩ | ⟨c, e1, e2⟩
  · exact h (p ++ x :: c) b t1 v t2 w (by rw [e2]; simp) hv
  · cases c with
    | nil =>
      simp at e1 e2
      exact h (u ++ [x]) b t1 v t2 w (by rw [e1, ← e2]; simp) hv
    | cons y c =>
      simp only [List.cons_append, List.cons.injEq] at e2
      obtain ⟨rfl, e2⟩ := e2
      rcases List.append_eq_append_iff.mp e2 with ⟨d, e3, e4⟩ | ⟨d, e3, e4⟩
      · -- both ahead
        cases d with
        | nil =>
          simp at e3 e4
          subst e3
          refine h u b t1 (c ++ [x]) t2 w (by rw [e1, ← e4]; simp) fun z hz => ?_
          rcases List.mem_append.mp hz with g | g
          · exact hv z g
          · rw [List.mem_singleton.mp g]
            rcases hx with hx | hx
            · rw [F.ap_comm]; exact hx (b, t1) (by rw [e1]; simp)
            · rw [F.ap_comm]; exact hx (b, t2) (by rw [← e4]; simp)
        | cons z d =>
          simp only [List.cons_append, List.cons.injEq] at e4
          obtain ⟨rfl, e4⟩ := e4
          exact h u b t1 v t2 (d ++ x :: q) (by rw [e1, e3]; simp) hv
      · -- one ahead, one behind
        refine h u b t1 (c ++ x :: d) t2 w (by rw [e1, e4]; simp) fun z hz => ?_
        rcases List.mem_append.mp hz with g | g
        · exact hv z (by rw [e3]; simp [g])
        · rcases List.mem_cons.mp g with g | g
          · rw [g]
            rcases hx with hx | hx
            · rw [F.ap_comm]; exact hx (b, t1) (by rw [e1]; simp)
            · rw [F.ap_comm]; exact hx (b, t2) (by rw [e4]; simp)
          · exact hv z (by rw [e3]; simp [g])
theorem not_red_of (irr : Irr F) {a : Nm} {t t' : Int} {r : List Step} : ∀ (u xs : List Step), SE F (u ++ (a, t) :: (a, t') :: r) xs → ¬ Red F xs
  | [], xs, h, hr => by
    obtain ⟨p, q, e1, hp, h1⟩ := SE.head irr h
    obtain ⟨p', q', e2, hp', h2⟩ := SE.head irr h1
    rcases List.append_eq_append_iff.mp e2 with ⟨c, e3, e4⟩ | ⟨c, e3, e4⟩
    · refine hr p a t c t' q' (by rw [e1, e4]) fun z hz => hp' z (by rw [e3]; simp [hz])
    · cases c with
      | nil =>
        simp at e3 e4
        refine hr p a t [] t' q' (by rw [e1, ← e4]; simp) fun z hz => by cases hz
      | cons y c =>
        simp only [List.cons_append, List.cons.injEq] at e4
        obtain ⟨rfl, e4⟩ := e4
        have := hp (a, t') (by rw [e3]; simp)
        rw [irr] at this
        cases this
  | x :: u, xs, h, hr => by
    obtain ⟨p, q, e1, hp, h1⟩ := SE.head irr h
    exact not_red_of irr u (p ++ q) h1 ((e1 ▸ hr).insert (.inl hp))
theorem Red.se (irr : Irr F) {xs ys : List Step} (h : Red F xs) (e : SE F xs ys) : Red F ys := by
  intro u a t v t' w hy hv
  have h0 : SE F ys (u ++ (a, t) :: (a, t') :: (v ++ w)) := by
    rw [hy]
    exact SE.app .refl (SE.cons (SE.front irr hv))
  exact not_red_of irr u xs (e.trans h0).symm h
theorem Red.time {u v : List Step} {a : Nm} {t q : Int} (h : Red F (u ++ (a, t) :: v)) : Red F (u ++ (a, q) :: v) := by
  intro u' b t1 v' t2 w e hv
  rcases List.append_eq_append_iff.mp e with ⟨c, e1, e2⟩ | ⟨c, e1, e2⟩
  · cases c with
    | nil =>
      simp only [List.nil_append, List.cons.injEq, Prod.mk.injEq] at e2
      obtain ⟨⟨rfl, rfl⟩, rfl⟩ := e2
      exact h u a t v' t2 w rfl hv
    | cons y c =>
      simp only [List.cons_append, List.cons.injEq] at e2
      obtain ⟨rfl, rfl⟩ := e2
      exact h (u ++ (a, t) :: c) b t1 v' t2 w (by simp) hv
  · cases c with
    | nil =>
      simp only [List.nil_append, List.cons.injEq, Prod.mk.injEq] at e2
      obtain ⟨⟨rfl, rfl⟩, rfl⟩ := e2
      exact h u b t v' t2 w rfl hv
    | cons y c =>
      simp only [List.cons_append, List.cons.injEq] at e2
      obtain ⟨rfl, e2⟩ := e2
      rcases List.append_eq_append_iff.mp e2 with ⟨d, e3, e4⟩ | ⟨d, e3, e4⟩
      · cases d with
        | nil =>
          simp only [List.nil_append, List.cons.injEq, Prod.mk.injEq] at e4
          obtain ⟨⟨rfl, rfl⟩, rfl⟩ := e4
          simp at e3
          exact h u' b t1 v' t w (by rw [e1, e3]; simp) hv
        | cons z d =>
          simp only [List.cons_append, List.cons.injEq] at e4
          obtain ⟨rfl, rfl⟩ := e4
          exact h u' b t1 v' t2 (d ++ (a, t) :: v) (by rw [e1, e3]; simp) hv
      · cases d with
        | nil =>
          simp only [List.nil_append, List.cons.injEq, Prod.mk.injEq] at e4
          obtain ⟨⟨rfl, rfl⟩, rfl⟩ := e4
          simp at e3
          exact h u' a t1 v' t v (by rw [e1, e3]; simp) hv
        | cons z d =>
          simp only [List.cons_append, List.cons.injEq] at e4
          obtain ⟨rfl, rfl⟩ := e4
          refine h u' b t1 (c ++ (a, t) :: d) t2 w (by rw [e1]; simp) fun z hz => ?_
          rcases List.mem_append.mp hz with g | g
          · exact hv z (by rw [e3]; simp [g])
          · rcases List.mem_cons.mp g with g | g
            · rw [g]; exact hv (a, q) (by rw [e3]; simp)
            · exact hv z (by rw [e3]; simp [g])
theorem Red.snoc {xs : List Step} {a : Nm} {q : Int} (h : Red F xs) (hl : ¬ LastP F xs a) : Red F (xs ++ [(a, q)]) := by
  intro u b t1 v t2 w e hv
  rcases List.eq_nil_or_concat w with rfl | ⟨w', y, rfl⟩
  · have e' : xs ++ [(a, q)] = (u ++ (b, t1) :: v) ++ [(b, t2)] := by rw [e]; simp
    obtain ⟨e1, e2⟩ := List.append_inj' e' rfl
    simp only [List.cons.injEq, Prod.mk.injEq, and_true] at e2
    obtain ⟨rfl, rfl⟩ := e2
    exact hl ⟨u, t1, v, e1, hv⟩
  · have e' : xs ++ [(a, q)] = (u ++ (b, t1) :: (v ++ (b, t2) :: w')) ++ [y] := by rw [e]; simp
    obtain ⟨e1, _⟩ := List.append_inj' e' rfl
    exact h u b t1 v t2 w' e1 hv
theorem Red.push (irr : Irr F) {xs : List Step} {s : Step} (h : Red F xs) : Red F (pushL F xs s) := by
  obtain ⟨a, q⟩ := s
  by_cases hl : LastP F xs a
  · obtain ⟨u, t, v, rfl, hv⟩ := hl
    rw [pushL_A irr hv]
    split
    · exact h.insert (.inr hv)
    · exact h.time
  · rw [pushL_B irr hl]
    exact h.snoc hl
theorem NZ.push (irr : Irr F) {xs : List Step} {s : Step} (h : NZ xs) (hs : s.2 ≠ 0) : NZ (pushL F xs s) := by
  obtain ⟨a, q⟩ := s
  by_cases hl : LastP F xs a
  · obtain ⟨u, t, v, rfl, hv⟩ := hl
    rw [pushL_A irr hv]
    split
    · exact fun x hx => h x (by rcases List.mem_append.mp hx with g | g <;> simp [g])
    · rename_i hz
      intro x hx
      rcases List.mem_append.mp hx with g | g
      · exact h x (by simp [g])
      · rcases List.mem_cons.mp g with g | g
        · rw [g]; exact hz
        · exact h x (by simp [g])
  · rw [pushL_B irr hl]
    intro x hx
    rcases List.mem_append.mp hx with g | g
    · exact h x g
    · rw [List.mem_singleton.mp g]; exact hs
/-- what is alike stays so under a push -/
theorem LastP.se (irr : Irr F) {xs ys : List Step} {a : Nm} (h : SE F xs ys) {u v : List Step} {t : Int} (e : xs = u ++ (a, t) :: v) (hv : AllAp F v a) : ∃ u' v', ys = u' ++ (a, t) :: v' ∧ AllAp F v' a ∧ SE F (u ++ v) (u' ++ v') := by
  subst e
  have := (SE.last (u := u) (s := (a, t)) irr hv).symm.trans h
  exact SE.tail irr this
theorem push_cong (irr : Irr F) {xs ys : List Step} {s : Step} (h : SE F xs ys) : SE F (pushL F xs s) (pushL F ys s) := by
  obtain ⟨a, q⟩ := s
  by_cases hl : LastP F xs a
  · obtain ⟨u, t, v, e, hv⟩ := hl
    obtain ⟨u', v', e', hv', hse⟩ := LastP.se irr h e hv
    rw [e, e', pushL_A irr hv, pushL_A irr hv']
    split
    · exact hse
    · exact (SE.last (s := (a, t + q)) irr hv).trans ((SE.app hse .refl).trans (SE.last (s := (a, t + q)) irr hv').symm)
  · have hl' : ¬ LastP F ys a := fun ⟨u, t, v, e, hv⟩ => by
      obtain ⟨u', v', e', hv', _⟩ := LastP.se irr h.symm e hv
      exact hl ⟨u', t, v', e', hv'⟩
    rw [pushL_B irr hl, pushL_B irr hl']
    exact SE.app h .refl
/-- a push below a step that is apart -/
theorem push_under (irr : Irr F) {xs : List Step} {s t : Step} (h : F.ap s.1 t.1 = true) : SE F (pushL F (xs ++ [s]) t) (pushL F xs t ++ [s]) := by
  obtain ⟨a, q⟩ := t
  have hsw : SE F ([s] ++ [(a, q)]) ([(a, q)] ++ [s]) := SE.front (u := [s]) (v := []) (s := (a, q)) irr fun x hx => by rw [List.mem_singleton.mp hx]; exact h
  by_cases hl : LastP F xs a
  · obtain ⟨u, t, v, e, hv⟩ := hl
    have hv2 : AllAp F (v ++ [s]) a := fun x hx => by
      rcases List.mem_append.mp hx with g | g
      · exact hv x g
      · rw [List.mem_singleton.mp g]; exact h
    have e2 : xs ++ [s] = u ++ (a, t) :: (v ++ [s]) := by rw [e]; simp
    rw [e2, e, pushL_A irr hv2, pushL_A irr hv]
    split
    · rw [List.append_assoc]; exact .refl
    · simp; exact .refl
  · have hl2 : ¬ LastP F (xs ++ [s]) a := fun ⟨u, t, v, e, hv⟩ => by
      rcases List.eq_nil_or_concat v with rfl | ⟨v', y, rfl⟩
      · have e' : xs ++ [s] = u ++ [(a, t)] := e
        obtain ⟨_, e2⟩ := List.append_inj' e' rfl
        simp only [List.cons.injEq, and_true] at e2
        rw [e2, irr] at h
        cases h
      · have e' : xs ++ [s] = (u ++ (a, t) :: v') ++ [y] := by rw [e]; simp
        obtain ⟨e1, _⟩ := List.append_inj' e' rfl
        exact hl ⟨u, t, v', e1, fun x hx => hv x (by simp [hx])⟩
    rw [pushL_B irr hl, pushL_B irr hl2, List.append_assoc, List.append_assoc]
    exact SE.app .refl hsw
theorem push_comm (irr : Irr F) {xs : List Step} {s t : Step} (h : F.ap s.1 t.1 = true) : SE F (pushL F (pushL F xs s) t) (pushL F (pushL F xs t) s) := by
  have key : ∀ (s t : Step), F.ap s.1 t.1 = true → LastP F xs s.1 → SE F (pushL F (pushL F xs s) t) (pushL F (pushL F xs t) s) := by
    rintro ⟨a, q⟩ t h ⟨u, r, v, e, hv⟩
    have hx : SE F xs ((u ++ v) ++ [(a, r)]) := by rw [e]; exact SE.last (s := (a, r)) irr hv
    have nil : AllAp F [] a := fun x hx => by cases hx
    have p1 : ∀ (zs : List Step), pushL F (zs ++ [(a, r)]) (a, q) = if r + q = 0 then zs else zs ++ [(a, r + q)] := fun zs => by
      have := pushL_A (F := F) irr (u := zs) (v := []) (a := a) (t := r) (q := q) nil
      simpa using this
    have l1 : SE F (pushL F xs (a, q)) (if r + q = 0 then u ++ v else (u ++ v) ++ [(a, r + q)]) := by
      have := push_cong (s := (a, q)) irr hx
      rwa [p1] at this
    have r1 : SE F (pushL F (pushL F xs t) (a, q)) (pushL F (pushL F (u ++ v) t ++ [(a, r)]) (a, q)) :=
      push_cong irr ((push_cong irr hx).trans (push_under (s := (a, r)) irr h))
    rw [p1] at r1
    refine (push_cong (s := t) irr l1).trans (.trans ?_ r1.symm)
    split
    · exact .refl
    · exact push_under (s := (a, r + q)) irr h
  by_cases h1 : LastP F xs s.1
  · exact key s t h h1
  · by_cases h2 : LastP F xs t.1
    · exact (key t s (by rw [F.ap_comm]; exact h) h2).symm
    · have e1 : pushL F xs s = xs ++ [s] := pushL_B (q := s.2) irr h1
      have e2 : pushL F xs t = xs ++ [t] := pushL_B (q := t.2) irr h2
      rw [e1, e2]
      refine (push_under irr h).trans ?_
      refine .trans ?_ (push_under irr (by rw [F.ap_comm]; exact h)).symm
      rw [e1, e2, List.append_assoc, List.append_assoc]
      refine SE.app .refl ?_
      exact SE.front (u := [t]) (v := []) (s := s) irr fun x hx => by rw [List.mem_singleton.mp hx, F.ap_comm]; exact h
end
end DP

set_option Elab.async false
set_option linter.all false
set_option maxRecDepth 100000
set_option maxHeartbeats 1000000
/-! Mt3: the pile of a word does not hang on how it is written; the law's own pile. -/
namespace DP
open PySem L2

section
variable {F : Fd}
theorem push_join (irr : Irr F) {xs : List Step} {a : Nm} {t q : Int} (hr : Red F xs) (hz : NZ xs) (ht : t ≠ 0) (hq : q ≠ 0) :
    SE F (pushL F (pushL F xs (a, t)) (a, q)) (if t + q = 0 then xs else pushL F xs (a, t + q)) := by
  have nil : AllAp F [] a := fun x hx => by cases hx
  by_cases hl : LastP F xs a
  · obtain ⟨u, r, v, rfl, hv⟩ := hl
    have hr0 : r ≠ 0 := hz (a, r) (by simp)
    rw [pushL_A irr hv, pushL_A irr hv]
    by_cases h1 : r + t = 0
    · have nl : ¬ LastP F (u ++ v) a := fun ⟨u2, t2, v2, e, hv2⟩ => by
        rcases List.append_eq_append_iff.mp e with ⟨c, e1, e2⟩ | ⟨c, e1, e2⟩
        · have := hv (a, t2) (by rw [e2]; simp)
          rw [irr] at this; cases this
        · cases c with
          | nil =>
            simp at e1 e2
            have := hv (a, t2) (by rw [← e2]; simp)
            rw [irr] at this; cases this
          | cons y c =>
            simp only [List.cons_append, List.cons.injEq] at e2
            obtain ⟨rfl, rfl⟩ := e2
            exact hr u2 a t2 c r v (by rw [e1]; simp) fun x hx => hv2 x (by simp [hx])
      rw [if_pos h1, pushL_B irr nl]
      have e : r + (t + q) = q := by omega
      rw [e, if_neg hq]
      by_cases h2 : t + q = 0
      · rw [if_pos h2]
        have : q = r := by omega
        subst this
        exact (SE.last (s := (a, q)) irr hv).symm
      · rw [if_neg h2]
        exact (SE.last (s := (a, q)) irr hv).symm
    · rw [if_neg h1, pushL_A irr hv]
      by_cases h2 : t + q = 0
      · have e : r + t + q = r := by omega
        rw [e, if_neg hr0, if_pos h2]
        exact .refl
      · have e : r + (t + q) = r + t + q := by omega
        rw [if_neg h2, e]
        exact .refl
  · rw [pushL_B irr hl, pushL_B irr hl]
    have := pushL_A (F := F) irr (u := xs) (v := []) (a := a) (t := t) (q := q) nil
    rw [this]
    split
    · simp; exact .refl
    · exact .refl
theorem fold_cong (irr : Irr F) : ∀ (w : List Step) {xs ys : List Step}, SE F xs ys → SE F (w.foldl (pushL F) xs) (w.foldl (pushL F) ys)
  | [], _, _, h => h
  | s :: w, _, _, h => fold_cong irr w (push_cong irr h)
theorem fold_red (irr : Irr F) : ∀ (w : List Step) {xs : List Step}, Red F xs → Red F (w.foldl (pushL F) xs)
  | [], _, h => h
  | s :: w, _, h => fold_red irr w (h.push irr)
theorem fold_nz (irr : Irr F) : ∀ (w : List Step) {xs : List Step}, NZ w → NZ xs → NZ (w.foldl (pushL F) xs)
  | [], _, _, h => h
  | s :: w, _, hw, h => fold_nz irr w (fun x hx => hw x (List.mem_cons_of_mem _ hx)) (h.push irr (hw s List.mem_cons_self))
theorem pile_red (irr : Irr F) {w : List Step} : Red F (pileL F w) := fold_red irr w Red.nil
theorem pile_nz (irr : Irr F) {w : List Step} (h : NZ w) : NZ (pileL F w) := fold_nz irr w h NZ.nil
/-- a step moved ahead of steps that are apart -/
theorem fold_move (irr : Irr F) {s : Step} : ∀ (u : List Step) (xs : List Step), AllAp F u s.1 → SE F (pushL F (u.foldl (pushL F) xs) s) (u.foldl (pushL F) (pushL F xs s))
  | [], xs, _ => .refl
  | t :: u, xs, h => by
    have h1 := fold_move irr u (pushL F xs t) fun x hx => h x (List.mem_cons_of_mem _ hx)
    refine h1.trans (fold_cong irr u ?_)
    exact push_comm irr (h t List.mem_cons_self)
theorem fold_se (irr : Irr F) : ∀ (w w' : List Step) (xs : List Step), SE F w w' → SE F (w.foldl (pushL F) xs) (w'.foldl (pushL F) xs)
  | [], w', xs, h => by rw [SE.nil_left irr h]; exact .refl
  | s :: w, w', xs, h => by
    obtain ⟨u, v, e, hu, hse⟩ := SE.head irr h
    have h1 := fold_se irr w (u ++ v) (pushL F xs s) hse
    rw [e]
    refine h1.trans ?_
    rw [List.foldl_append, List.foldl_append, List.foldl_cons]
    exact fold_cong irr v (fold_move irr u xs hu).symm
theorem pile_se (irr : Irr F) {w w' : List Step} (h : SE F w w') : SE F (pileL F w) (pileL F w') := fold_se irr w w' [] h
/-- two steps of a name that meet are one -/
theorem pile_join (irr : Irr F) {x y : List Step} {a : Nm} {t q : Int} (hz : NZ x) (ht : t ≠ 0) (hq : q ≠ 0) : SE F (pileL F (x ++ (a, t) :: (a, q) :: y)) (pileL F (x ++ (if t + q = 0 then [] else [(a, t + q)]) ++ y)) := by
  unfold pileL
  rw [List.foldl_append, List.foldl_append, List.foldl_append]
  have := push_join (F := F) irr (xs := x.foldl (pushL F) []) (a := a) (t := t) (q := q) (fold_red irr x Red.nil) (fold_nz irr x hz NZ.nil) ht hq
  refine fold_cong irr y (this.trans ?_)
  split <;> exact .refl
theorem pile_append {x y : List Step} : pileL F (x ++ y) = y.foldl (pushL F) (pileL F x) := by unfold pileL; rw [List.foldl_append]
/-- a pile is its own pile -/
theorem pile_self (irr : Irr F) {w : List Step} (h : Red F w) : pileL F w = w := by
  have key : ∀ (w x : List Step), Red F (x ++ w) → w.foldl (pushL F) x = x ++ w := by
    intro w
    induction w with
    | nil => intro x _; simp
    | cons s w ih =>
      intro x hr
      have nl : ¬ LastP F x s.1 := fun ⟨u, t, v, e, hv⟩ => hr u s.1 t v s.2 w (by rw [e]; simp) hv
      rw [List.foldl_cons, show pushL F x s = x ++ [s] from pushL_B (q := s.2) irr nl, ih]
      · simp
      · simpa using hr
  exact key w [] (by simpa using h)
/-! ### the law's own pile -/
theorem scanL_some {a : Nm} : ∀ {xs : List Step} {j i : Nat}, scanL F a xs j = some i → ∃ u t v, xs = u ++ (a, t) :: v ∧ u.length = i - j ∧ j ≤ i ∧ AllAp F u a
  | [], j, i, h => by simp [scanL] at h
  | s :: r, j, i, h => by
    simp only [scanL] at h
    split at h
    · rename_i e
      cases h
      exact ⟨[], s.2, r, by rw [← e]; rfl, by simp, Nat.le_refl _, fun x hx => by cases hx⟩
    · split at h
      · rename_i q
        obtain ⟨u, t, v, e1, e2, e3, e4⟩ := scanL_some h
        refine ⟨s :: u, t, v, by rw [e1]; rfl, by simp [e2]; omega, by omega, fun x hx => ?_⟩
        rcases List.mem_cons.mp hx with g | g
        · rw [g]; exact q
        · exact e4 x g
      · cases h
theorem scanL_none (irr : Irr F) {a : Nm} : ∀ {xs : List Step} {j : Nat}, scanL F a xs j = none → ∀ u t v, xs = u ++ (a, t) :: v → ¬ AllAp F u a
  | [], j, h, u, t, v, e => by simp at e
  | s :: r, j, h, u, t, v, e => by
    simp only [scanL] at h
    intro hu
    cases u with
    | nil =>
      simp only [List.nil_append, List.cons.injEq] at e
      rw [e.1] at h
      simp at h
    | cons y u =>
      simp only [List.cons_append, List.cons.injEq] at e
      obtain ⟨rfl, e⟩ := e
      split at h
      · cases h
      · split at h
        · exact scanL_none irr h u t v e fun x hx => hu x (List.mem_cons_of_mem _ hx)
        · rename_i q
          exact q (hu s List.mem_cons_self)
theorem metL_some : ∀ {xs : List Step} {k i j : Nat}, metL F xs k = some (i, j) → ∃ u a t v q w, xs = u ++ (a, t) :: (v ++ (a, q) :: w) ∧ AllAp F v a ∧ i = k + u.length ∧ j = k + u.length + 1 + v.length
  | [], k, i, j, h => by simp [metL] at h
  | s :: r, k, i, j, h => by
    simp only [metL] at h
    split at h
    · rename_i jj hs
      cases h
      obtain ⟨u, t, v, e1, e2, e3, e4⟩ := scanL_some hs
      exact ⟨[], s.1, s.2, u, t, v, by rw [e1]; rfl, e4, by simp, by simp [e2]; omega⟩
    · obtain ⟨u, a, t, v, q, w, e, hv, e1, e2⟩ := metL_some h
      exact ⟨s :: u, a, t, v, q, w, by rw [e]; rfl, hv, by simp [e1]; omega, by simp [e2]; omega⟩
theorem metL_none (irr : Irr F) : ∀ {xs : List Step} {k : Nat}, metL F xs k = none → Red F xs
  | [], k, h => Red.nil
  | s :: r, k, h => by
    simp only [metL] at h
    split at h
    · cases h
    · rename_i hs
      have ih := metL_none irr h
      intro u a t v t' w e hv
      cases u with
      | nil =>
        simp only [List.nil_append, List.cons.injEq] at e
        obtain ⟨rfl, rfl⟩ := e
        exact scanL_none irr hs v t' w rfl hv
      | cons y u =>
        simp only [List.cons_append, List.cons.injEq] at e
        exact ih u a t v t' w e.2 hv
theorem red_met (irr : Irr F) {xs : List Step} (h : Red F xs) : metL F xs 0 = none := by
  cases e : metL F xs 0 with
  | none => rfl
  | some ij =>
    obtain ⟨u, a, t, v, q, w, e1, hv, _, _⟩ := metL_some (i := ij.1) (j := ij.2) e
    exact absurd hv (h u a t v q w e1)
theorem lstep_eq {u v w : List Step} {a : Nm} {t q : Int} : lstepL (u ++ (a, t) :: (v ++ (a, q) :: w)) u.length (u.length + 1 + v.length) = u ++ (if t + q = 0 then [] else [(a, t + q)]) ++ (v ++ w) := by
  have n1 : nth (u ++ (a, t) :: (v ++ (a, q) :: w)) u.length = (a, t) := nth_mid
  have n2 : nth (u ++ (a, t) :: (v ++ (a, q) :: w)) (u.length + 1 + v.length) = (a, q) := by
    have e : u ++ (a, t) :: (v ++ (a, q) :: w) = (u ++ (a, t) :: v) ++ (a, q) :: w := by simp
    have l : (u ++ (a, t) :: v).length = u.length + 1 + v.length := by simp; omega
    rw [e, ← l]
    exact nth_mid
  unfold lstepL
  rw [n1, n2]
  congr 1
  · congr 1
    simp
  · have d1 : (u ++ (a, t) :: (v ++ (a, q) :: w)).drop (u.length + 1) = v ++ (a, q) :: w := by
      rw [← List.drop_drop, List.drop_left]; rfl
    have d2 : (u ++ (a, t) :: (v ++ (a, q) :: w)).drop (u.length + 1 + v.length + 1) = w := by
      rw [show u.length + 1 + v.length + 1 = (u.length + 1) + (v.length + 1) by omega, ← List.drop_drop, d1, ← List.drop_drop, List.drop_left]; rfl
    rw [d1, d2, show u.length + 1 + v.length - (u.length + 1) = v.length by omega, List.take_left]
theorem lpile_spec (irr : Irr F) : ∀ (n : Nat) (xs : List Step), xs.length ≤ n → NZ xs → Red F (lpileL F n xs) ∧ NZ (lpileL F n xs) ∧ SE F (pileL F xs) (lpileL F n xs) ∧ (¬ Red F xs → (lpileL F n xs).length < xs.length)
  | 0, xs, hn, hz => by
    have : xs = [] := List.length_eq_zero_iff.mp (by omega)
    subst this
    exact ⟨Red.nil, hz, .refl, fun h => absurd Red.nil h⟩
  | n + 1, xs, hn, hz => by
    unfold lpileL
    cases e : metL F xs 0 with
    | none =>
      have hr := metL_none irr e
      exact ⟨hr, hz, by rw [pile_self irr hr]; exact .refl, fun h => absurd hr h⟩
    | some ij =>
      obtain ⟨i, j⟩ := ij
      obtain ⟨u, a, t, v, q, w, e1, hv, e2, e3⟩ := metL_some e
      have hs := metL_spec e
      have hlen := lstepL_len (xs := xs) hs.2.1 (by omega)
      have ht : t ≠ 0 := hz (a, t) (by rw [e1]; simp)
      have hq : q ≠ 0 := hz (a, q) (by rw [e1]; simp)
      have es : lstepL xs i j = u ++ (if t + q = 0 then [] else [(a, t + q)]) ++ (v ++ w) := by
        rw [e1, e2, e3, Nat.zero_add]
        exact lstep_eq
      have nz' : NZ (lstepL xs i j) := by
        rw [es]
        intro s hs
        rcases List.mem_append.mp hs with g | g
        · rcases List.mem_append.mp g with g | g
          · exact hz s (by rw [e1]; simp [g])
          · split at g
            · cases g
            · rw [List.mem_singleton.mp g]; assumption
        · exact hz s (by rw [e1]; rcases List.mem_append.mp g with g | g <;> simp [g])
      obtain ⟨r1, r2, r3, r4⟩ := lpile_spec irr n (lstepL xs i j) (by omega) nz'
      refine ⟨r1, r2, ?_, fun _ => ?_⟩
      · refine .trans ?_ r3
        have s1 : SE F xs (u ++ (a, t) :: (a, q) :: (v ++ w)) := by
          rw [e1]
          exact SE.app .refl (SE.cons (SE.front (s := (a, q)) irr hv))
        refine (pile_se irr s1).trans ?_
        rw [es]
        exact pile_join irr (fun s hs => hz s (by rw [e1]; simp [hs])) ht hq
      · have := lpileL_len (F := F) (n := n) (xs := lstepL xs i j)
        show (lpileL F n (lstepL xs i j)).length < xs.length
        omega
end
end DP

set_option Elab.async false
set_option linter.all false
set_option maxRecDepth 100000
set_option maxHeartbeats 1000000
/-! Mt4: arranging piles. -/
namespace DP
open PySem L2

/-! ### the order of names -/
theorem nm_trans {a b c : Nm} (h : a < b) (k : b < c) : a < c := List.lt_trans h k
theorem nm_asymm {a b : Nm} (h : a < b) : ¬ b < a := fun k => nm_irrefl a (nm_trans h k)
theorem nm_conn {a b : Nm} (h : ¬ a < b) (k : ¬ b < a) : a = b := by
  have h1 : b.key ≤ a.key := List.not_lt.mp h
  have h2 : a.key ≤ b.key := List.not_lt.mp k
  exact Nm.key_inj (List.le_antisymm h2 h1)
section
variable {F : Fd}
/-- the step at a place can stand first -/
def FstP (F : Fd) (xs : List Step) (i : Nat) : Prop := i < xs.length ∧ ∀ j, j < i → F.ap (nth xs i).1 (nth xs j).1 = true
/-- a place of the least name that can stand first -/
def PickP (F : Fd) (xs : List Step) (i : Nat) : Prop := FstP F xs i ∧ ∀ j, FstP F xs j → ¬ (nth xs j).1 < (nth xs i).1
theorem FstP.split {xs : List Step} {i : Nat} (h : FstP F xs i) : xs = xs.take i ++ nth xs i :: xs.drop (i + 1) ∧ AllAp F (xs.take i) (nth xs i).1 ∧ xs.eraseIdx i = xs.take i ++ xs.drop (i + 1) := by
  refine ⟨?_, fun x hx => ?_, List.eraseIdx_eq_take_drop_succ _ _⟩
  · rw [← drop_cons_of h.1, List.take_append_drop]
  · obtain ⟨j, hj, rfl⟩ := List.getElem_of_mem hx
    have hj2 : j < i := by simp at hj; omega
    have := h.2 j hj2
    have hl := h.1
    rw [getD_of (show j < xs.length by omega)] at this
    rw [F.ap_comm]
    simpa using this
theorem fst_mid {u v : List Step} {s : Step} (h : AllAp F u s.1) : FstP F (u ++ s :: v) u.length := by
  refine ⟨by simp, fun j hj => ?_⟩
  rw [nth_mid, getD_of (by simp; omega), List.getElem_append_left hj, F.ap_comm]
  exact h _ (List.getElem_mem hj)
/-- a front of a word is one of a word that comes from it -/
theorem FstP.se (irr : Irr F) {xs ys : List Step} {i : Nat} (h : FstP F xs i) (e : SE F xs ys) : ∃ j, FstP F ys j ∧ nth ys j = nth xs i ∧ SE F (xs.eraseIdx i) (ys.eraseIdx j) := by
  obtain ⟨e1, e2, e3⟩ := h.split
  have h1 : SE F (nth xs i :: (xs.take i ++ xs.drop (i + 1))) ys := by
    have := SE.front (v := xs.drop (i + 1)) irr e2
    rw [← e1] at this
    exact this.symm.trans e
  obtain ⟨u, v, e4, hu, hse⟩ := SE.head irr h1
  refine ⟨u.length, by rw [e4]; exact fst_mid hu, by rw [e4]; exact nth_mid, ?_⟩
  rw [e3, e4, List.eraseIdx_append_of_length_le (Nat.le_refl _)]
  simpa using hse
/-- two fronts of one name are one -/
theorem FstP.uniq (irr : Irr F) {xs : List Step} {i j : Nat} (h : FstP F xs i) (k : FstP F xs j) (e : (nth xs i).1 = (nth xs j).1) : i = j := by
  rcases Nat.lt_trichotomy i j with q | q | q
  · have := k.2 i q
    rw [e, irr] at this
    cases this
  · exact q
  · have := h.2 j q
    rw [e, irr] at this
    cases this
theorem PickP.se (irr : Irr F) {xs ys : List Step} {i j : Nat} (h : PickP F xs i) (k : PickP F ys j) (e : SE F xs ys) : nth xs i = nth ys j ∧ SE F (xs.eraseIdx i) (ys.eraseIdx j) := by
  obtain ⟨j', f1, f2, f3⟩ := h.1.se irr e
  obtain ⟨i', g1, g2, g3⟩ := k.1.se irr e.symm
  have a1 := h.2 i' g1
  have a2 := k.2 j' f1
  rw [g2] at a1
  rw [f2] at a2
  have en := nm_conn a1 a2
  have : j' = j := f1.uniq irr k.1 (by rw [f2, en])
  subst this
  exact ⟨f2.symm, f3⟩
/-! ### the program's picks -/
theorem firstsL_iff : ∀ {xs : List Step} {st : List Nm} {k i : Nat}, i ∈ firstsL F xs st k ↔ ∃ j, i = k + j ∧ j < xs.length ∧ (nth xs j).1 ∈ st ∧ ∀ l, l < j → F.ap (nth xs j).1 (nth xs l).1 = true
  | [], st, k, i => by simp [firstsL]
  | s :: r, st, k, i => by
    have n0 : nth (s :: r) 0 = s := rfl
    have nS : ∀ j, nth (s :: r) (j + 1) = nth r j := fun j => rfl
    simp only [firstsL, List.mem_append]
    constructor
    · rintro (h | h)
      · split at h
        · rename_i hs
          simp at h
          exact ⟨0, by omega, by simp, by rw [n0]; exact hasB_iff.mp hs, fun l hl => by omega⟩
        · cases h
      · split at h
        · cases h
        · obtain ⟨j, e1, e2, e3, e4⟩ := firstsL_iff.mp h
          obtain ⟨m1, m2⟩ := List.mem_filter.mp e3
          refine ⟨j + 1, by omega, by simpa using e2, by rw [nS]; exact m1, fun l hl => ?_⟩
          cases l with
          | zero => rw [nS, n0]; exact m2
          | succ l => rw [nS, nS]; exact e4 l (by omega)
    · rintro ⟨j, e1, e2, e3, e4⟩
      cases j with
      | zero =>
        left
        rw [n0] at e3
        rw [if_pos (hasB_iff.mpr e3)]
        simp [e1]
      | succ j =>
        right
        have hm : (nth r j).1 ∈ st.filter fun n => F.ap n s.1 := List.mem_filter.mpr ⟨by rw [nS] at e3; exact e3, by have := e4 0 (by omega); rw [nS, n0] at this; exact this⟩
        rw [if_neg (List.ne_nil_of_mem hm)]
        refine firstsL_iff.mpr ⟨j, by omega, by simpa using e2, hm, fun l hl => ?_⟩
        have := e4 (l + 1) (by omega)
        rwa [nS, nS] at this
theorem firsts_fst {xs : List Step} (hi : InF F xs) {i : Nat} : i ∈ firstsL F xs F.names 0 ↔ FstP F xs i := by
  rw [firstsL_iff]
  constructor
  · rintro ⟨j, e1, e2, _, e4⟩
    rw [Nat.zero_add] at e1
    subst e1
    exact ⟨e2, e4⟩
  · rintro ⟨h1, h2⟩
    exact ⟨i, by omega, h1, by rw [getD_of h1]; exact hi _ (List.getElem_mem h1), h2⟩
theorem minL_le : ∀ (ps : List (Nm × Int)), ∀ p ∈ ps, ¬ p.1 < (minL ps).1
  | [], p, h => by cases h
  | x :: r, p, h => by
    have key : ∀ (r : List (Nm × Int)) (x : Nm × Int), (∀ p ∈ r, ¬ p.1 < (r.foldl (fun a y => if ltP y a = true then y else a) x).1) ∧ ¬ x.1 < (r.foldl (fun a y => if ltP y a = true then y else a) x).1 := by
      intro r
      induction r with
      | nil => intro x; exact ⟨(fun p hp => absurd hp (by simp)), nm_irrefl _⟩
      | cons y r ih =>
        intro x
        rw [List.foldl_cons]
        obtain ⟨h1, h2⟩ := ih (if ltP y x = true then y else x)
        -- neither x nor y is less than the chosen
        have hc : (∀ z : Nm, ¬ (if ltP y x = true then y else x).1 < z → ¬ x.1 < z ∧ ¬ y.1 < z) := by
          intro z hz
          cases q : ltP y x with
          | true =>
            simp only [q, if_true] at hz
            refine ⟨fun k => hz ?_, hz⟩
            simp only [ltP, Bool.or_eq_true, Bool.and_eq_true, decide_eq_true_eq] at q
            rcases q with q | q
            · exact nm_trans q k
            · rw [q.1]; exact k
          | false =>
            simp only [q, Bool.false_eq_true, if_false] at hz
            refine ⟨hz, fun k => ?_⟩
            simp only [ltP, Bool.or_eq_false_iff, decide_eq_false_iff_not] at q
            by_cases g : x.1 < y.1
            · exact hz (nm_trans g k)
            · have := nm_conn q.1 g
              rw [this] at k
              exact hz k
        obtain ⟨h3, h4⟩ := hc _ h2
        refine ⟨fun p hp => ?_, h3⟩
        rcases List.mem_cons.mp hp with g | g
        · rw [g]; exact h4
        · exact h1 p g
    obtain ⟨h1, h2⟩ := key r x
    rcases List.mem_cons.mp h with g | g
    · rw [g]; exact h2
    · exact h1 p g
theorem pick_ok {xs : List Step} (hne : xs ≠ []) (hi : InF F xs) : PickP F xs (pickL F xs) := by
  have m := minL_mem _ (keysL_ne hne hi)
  simp only [keysL, List.mem_map] at m
  obtain ⟨k, hk, e⟩ := m
  have e2 : (minL (keysL F xs)).2 = (k : Int) := by unfold keysL; rw [← e]
  have e3 : pickL F xs = k := by unfold pickL; rw [e2]; simp
  have e4 : (minL (keysL F xs)).1 = (nth xs k).1 := by unfold keysL; rw [← e]
  rw [e3]
  refine ⟨(firsts_fst hi).mp hk, fun j hj => ?_⟩
  have := minL_le (keysL F xs) ((nth xs j).1, (j : Int)) (by unfold keysL; exact List.mem_map.mpr ⟨j, (firsts_fst hi).mpr hj, rfl⟩)
  rw [e4] at this
  exact this
/-! ### the law's picks -/
theorem lfirst_fst {xs : List Step} {i : Nat} : i ∈ lfirstL F xs ↔ FstP F xs i := by
  simp only [lfirstL, List.mem_filter, List.mem_range, lfirstB, List.all_eq_true]
  constructor
  · rintro ⟨h1, h2⟩
    refine ⟨h1, fun j hj => ?_⟩
    have := h2 xs[j] (by rw [List.mem_take_iff_getElem]; exact ⟨j, by omega, rfl⟩)
    rw [F.ap_comm, getD_of (show j < xs.length by omega)]
    exact this
  · rintro ⟨h1, h2⟩
    refine ⟨h1, fun s hs => ?_⟩
    obtain ⟨j, hj, rfl⟩ := List.mem_take_iff_getElem.mp hs
    have := h2 j (by omega)
    rw [getD_of (show j < xs.length by omega)] at this
    rw [F.ap_comm]
    exact this
theorem srtO_sorted {xs : List Nm} : (srtO xs).Pairwise fun a b => ¬ b < a := by
  have := List.pairwise_mergeSort (le := fun a b : Nm => !Od.lt b a) (fun a b c h1 h2 => by
    simp only [Od.lt, Bool.not_eq_true', decide_eq_false_iff_not] at *
    intro h3
    by_cases g : b < a
    · exact h1 g
    · have : ¬ a < b ∨ a < b := by by_cases q : a < b <;> simp [q]
      rcases this with q | q
      · have := nm_conn q g
        subst this
        exact h2 h3
      · exact h2 (nm_trans h3 q)) (fun a b => by
    simp only [Od.lt, Bool.or_eq_true, Bool.not_eq_true', decide_eq_false_iff_not]
    by_cases g : b < a
    · right; exact nm_asymm g
    · left; exact g) xs
  exact this.imp fun h => by simpa [Od.lt] using h
theorem lpick_ok {xs : List Step} (hne : xs ≠ []) : PickP F xs (lpickL F xs) := by
  obtain ⟨m1, m2⟩ := List.mem_filter.mp (lpick_mem (F := F) hne)
  have en : (nth xs (lpickL F xs)).1 = nth (lnamesL F xs) 0 := of_decide_eq_true m2
  refine ⟨lfirst_fst.mp m1, fun j hj => ?_⟩
  rw [en]
  have hm : (nth xs j).1 ∈ lnamesL F xs := srtO_perm.mem_iff.mpr (List.mem_map.mpr ⟨j, lfirst_fst.mpr hj, rfl⟩)
  have hs : (lnamesL F xs).Pairwise fun a b => ¬ b < a := srtO_sorted
  cases e : lnamesL F xs with
  | nil => rw [e] at hm; cases hm
  | cons n r =>
    rw [e] at hm hs
    show ¬ (nth xs j).1 < n
    rcases List.mem_cons.mp hm with g | g
    · rw [g]; exact nm_irrefl _
    · exact (List.pairwise_cons.mp hs).1 _ g
theorem arr_eq (irr : Irr F) : ∀ (n : Nat) (xs ys : List Step), xs.length = n → InF F xs → SE F xs ys → arrL F n xs = larrL F n ys
  | 0, xs, ys, _, _, _ => rfl
  | n + 1, xs, ys, hn, hi, h => by
    have hp := h.perm irr
    have hx : xs ≠ [] := fun z => by rw [z] at hn; simp at hn
    have hy : ys ≠ [] := fun z => by rw [z] at hp; exact hx hp.eq_nil
    obtain ⟨e1, e2⟩ := (pick_ok hx hi).se irr (lpick_ok hy) h
    have hlt := (pick_ok hx hi).1.1
    simp only [arrL, larrL, hx, hy, if_false]
    rw [e1, arr_eq irr n _ _ (by rw [List.length_eraseIdx_of_lt hlt]; omega) hi.erase e2]
theorem larr_se (irr : Irr F) : ∀ (n : Nat) (xs : List Step), xs.length = n → SE F (larrL F n xs) xs
  | 0, xs, hn => by rw [List.length_eq_zero_iff.mp hn]; exact .refl
  | n + 1, xs, hn => by
    have hx : xs ≠ [] := fun z => by rw [z] at hn; simp at hn
    have hp := (lpick_ok (F := F) hx).1
    obtain ⟨e1, e2, e3⟩ := hp.split
    simp only [larrL, hx, if_false]
    have ih := larr_se irr n (xs.eraseIdx (lpickL F xs)) (by rw [List.length_eraseIdx_of_lt hp.1]; omega)
    rw [e3] at ih
    rw [e3]
    have := SE.front (v := xs.drop (lpickL F xs + 1)) irr e2
    rw [← e1] at this
    exact (SE.cons ih).trans this.symm
/-! ### the least pile is the law's -/
theorem least_law (irr : Irr F) {w : List Step} (hz : NZ w) (hi : InF F w) : leastL F w = lleastL F w ∧ SE F (pileL F w) (lleastL F w) ∧ Red F (lleastL F w) ∧ NZ (lleastL F w) := by
  obtain ⟨r1, r2, r3, _⟩ := lpile_spec irr w.length w (Nat.le_refl _) hz
  have hl : (pileL F w).length = (lpileL F w.length w).length := (r3.perm irr).length_eq
  have h1 : leastL F w = lleastL F w := by
    unfold leastL lleastL
    rw [arr_eq irr _ _ _ rfl hi.pile r3, hl]
  have h2 : SE F (lleastL F w) (lpileL F w.length w) := larr_se irr _ _ rfl
  refine ⟨h1, r3.trans h2.symm, r1.se irr h2.symm, fun s hs => r2 s ((h2.perm irr).mem_iff.mp hs)⟩
end
end DP

set_option Elab.async false
set_option linter.all false
set_option maxRecDepth 100000
set_option maxHeartbeats 1000000
/-! La0: what all functions of a law keep, one behind another. -/
namespace DP
open PySem L2
open En (iv da)

abbrev HL := List (Nat × List Bool × (Fn → Prop))
def lookH : HL → Nat → Option (List Bool × (Fn → Prop))
  | [], _ => none
  | (i, x) :: r, n => bif Nat.beq i n then some x else lookH r n
def Have (fs : FS) (l : HL) : Prop := ∀ i b P, lookH l i = some (b, P) → Sp0 fs i b P
theorem Have.sp {fs : FS} {l : HL} (h : Have fs l) (i : Nat) {b : List Bool} {P : Fn → Prop} (e : lookH l i = some (b, P) := by rfl) : Sp0 fs i b P := h i b P e
theorem Have.nil {fs : FS} : Have fs [] := fun i b P e => by cases e
theorem Have.add {fs : FS} {l : HL} (h : Have fs l) {i : Nat} {F : Fn} (P : Fn → Prop) (p : P F) : Have ((i, F) :: fs) ((i, F.bor, P) :: l) := by
  intro j b Q e
  unfold lookH at e
  unfold Sp0 lookF
  cases q : Nat.beq i j with
  | true =>
    rw [q] at e
    cases e
    exact ⟨F, rfl, rfl, p⟩
  | false =>
    rw [q] at e
    exact h j b Q e
theorem fsI_cons {d : D} {t : Nat} {r : List (D × Nat)} {fs : FS} : fsI ((d, t) :: r) fs = fsI r ((d.id, fnD fs d) :: fs) := rfl
theorem stepH {fs : FS} {l L : HL} {d : D} {t : Nat} {r : List (D × Nat)} {P : Fn → Prop} (h : Have fs l) (p : P (fnD fs d)) (k : ∀ fs', Have fs' ((d.id, d.bor, P) :: l) → Have (fsI r fs') L) : Have (fsI ((d, t) :: r) fs) L := k _ (h.add P p)
/-- what a law's own draws begin with -/
theorem begun_run {Ff : Fn} {ns : List Int} (hl : ns.length ≤ 63) (h : ∃ cells : List Int, cells.length = 64 ∧ Ff.run [.iv (.scr ns)] [] = .ok (.ob (.lst (cells.map iv))) []) : ∃ o, Dw 0 o ∧ (begunFn Ff).run [.iv (.scr ns)] [] = .ok (.ob o) [] := by
  obtain ⟨cells, hc, e⟩ := h
  have it : intsOf (cells.map iv) = some cells := by
    have go : ∀ l : List Int, intsOf (l.map iv) = some l := by
      intro l
      induction l with
      | nil => rfl
      | cons a l ih => simp [intsOf, iv_int, ih]
    exact go cells
  have hz : szOk ns.length = true := by simp [szOk]; omega
  exact ⟨.drw cells (greatOf ns) 0, ⟨cells, _, _, rfl, hc, by omega, by omega⟩, by simp [begunFn, hz, e, it]⟩
abbrev pBegun (F0 : Fn) : Prop := ∀ ns : List Int, ns.length ≤ 63 → ∃ o, Dw 0 o ∧ F0.run [.iv (.scr ns)] [] = .ok (.ob o) []
theorem call_begun {fs : FS} (h : Sp0 fs 9001 [false] pBegun) {ns : List Int} (hl : ns.length ≤ 63) : ∃ o, Dw 0 o ∧ callN fs true 9001 [.iv (.scr ns)] [] = .ok (.ref 0) [o] := by
  obtain ⟨F0, h1, h2, h3⟩ := h
  obtain ⟨o, w, e⟩ := h3 ns hl
  refine ⟨o, w, ?_⟩
  rw [callN_of h1, callF1 h2 e]
  obtain ⟨a, b, c, rfl, _⟩ := w
  rfl
/-- as many turns as the law's first range tells -/
theorem rng_min {fs : FS} {env : Env} {os : OS} {ns : List Int} {c d i : Nat} (hv : getV env i os = .ok (.iv (.scr ns)) os) (hc : c + d ≤ 1000) : ∃ k : Nat, k ≤ c + d ∧ denI fs (.rng1 (.bin .Add (.c (.int (c : Int))) (.bi .min [.c (.int (d : Int)), .bi .len [.v i]]))) env os = .ok (rngL 0 k) os := by
  have l : biF .len [.iv (.scr ns)] os = .ok (.iv (.int ns.length)) os := rfl
  have m : biF .min [.iv (.int (d : Int)), .iv (.int ns.length)] os = .ok (.iv (.int (if (ns.length : Int) < (d : Int) then (ns.length : Int) else (d : Int)))) os := rfl
  have hm : ∃ j : Nat, j ≤ d ∧ (if (ns.length : Int) < (d : Int) then (ns.length : Int) else (d : Int)) = (j : Int) := by
    by_cases q : (ns.length : Int) < (d : Int)
    · exact ⟨ns.length, by omega, if_pos q⟩
    · exact ⟨d, by omega, if_neg q⟩
  obtain ⟨j, hj, ej⟩ := hm
  rw [ej] at m
  refine ⟨c + j, by omega, ?_⟩
  have e : denE fs (.bin .Add (.c (.int (c : Int))) (.bi .min [.c (.int (d : Int)), .bi .len [.v i]])) env os = .ok (.iv (.int ((c : Int) + (j : Int)))) os := by
    rw [e_bin, e_c, bind_ok, e_bi, ps_cons, e_c, bind_ok, ps_cons, e_bi, ps_cons, e_v, hv, bind_ok, ps_nil, bind_ok, bind_ok, l, bind_ok, ps_nil, bind_ok, bind_ok, bind_ok, m, bind_ok, bin_add_int]
  rw [i_rng1, e, bind_ok, rng1_int (rngOk_of (by omega) (by omega))]
  congr 2
end DP

set_option Elab.async false
set_option linter.all false
set_option maxRecDepth 100000
set_option maxHeartbeats 1000000
/-! Mt5: fronts of piles; lengths of piles. -/
namespace DP
open PySem L2
section
variable {F : Fd}
theorem firstsL_rise : ∀ {xs : List Step} {st : List Nm} {k : Nat}, (firstsL F xs st k).Pairwise (· < ·)
  | [], st, k => by simp [firstsL]
  | s :: r, st, k => by
    simp only [firstsL]
    refine List.pairwise_append.mpr ⟨by split <;> simp, ?_, fun a ha b hb => ?_⟩
    · split
      · exact List.Pairwise.nil
      · exact firstsL_rise
    · split at ha
      · split at hb
        · cases hb
        · obtain ⟨j, e, _⟩ := firstsL_iff.mp hb
          simp at ha
          omega
      · cases ha
theorem names_nodup (irr : Irr F) {xs : List Step} : ∀ {l : List Nat}, l.Pairwise (· < ·) → (∀ i ∈ l, FstP F xs i) → (l.map fun k => (nth xs k).1).Nodup
  | [], _, _ => List.nodup_nil
  | i :: l, h, k => by
    rw [List.map_cons, List.nodup_cons]
    refine ⟨fun m => ?_, names_nodup irr (List.Pairwise.of_cons h) fun j hj => k j (List.mem_cons_of_mem _ hj)⟩
    obtain ⟨j, hj, e⟩ := List.mem_map.mp m
    have := (k j (List.mem_cons_of_mem _ hj)).uniq irr (k i List.mem_cons_self) e
    have := List.rel_of_pairwise_cons h hj
    omega
theorem sorted_uniq : ∀ {xs ys : List Nm}, xs.Perm ys → xs.Pairwise (fun a b => ¬ b < a) → ys.Pairwise (fun a b => ¬ b < a) → xs = ys
  | [], ys, p, _, _ => p.symm.eq_nil.symm
  | x :: xs, [], p, _, _ => by cases p.eq_nil
  | x :: xs, y :: ys, p, h, k => by
    have e : x = y := by
      have mx : x ∈ y :: ys := p.subset List.mem_cons_self
      have my : y ∈ x :: xs := p.symm.subset List.mem_cons_self
      rcases List.mem_cons.mp mx with g | g
      · exact g
      · rcases List.mem_cons.mp my with g' | g'
        · exact g'.symm
        · exact nm_conn (List.rel_of_pairwise_cons k g) (List.rel_of_pairwise_cons h g')
    subst e
    rw [sorted_uniq (List.perm_cons _ |>.mp p) (List.Pairwise.of_cons h) (List.Pairwise.of_cons k)]
theorem fronts_eq (irr : Irr F) {xs ys : List Step} (hi : InF F xs) (h : SE F xs ys) : frontsL F xs = lnamesL F ys := by
  refine sorted_uniq (srtO_perm.trans (List.Perm.trans ?_ srtO_perm.symm)) srtO_sorted srtO_sorted
  have lr : (lfirstL F ys).Pairwise (· < ·) := List.Pairwise.filter _ List.pairwise_lt_range
  refine (List.perm_ext_iff_of_nodup (names_nodup irr firstsL_rise fun i hm => (firsts_fst hi).mp hm) (names_nodup irr lr fun i hm => lfirst_fst.mp hm)).mpr fun a => ?_
  simp only [List.mem_map, firsts_fst hi, lfirst_fst]
  constructor
  · rintro ⟨i, h1, h2⟩
    obtain ⟨j, g1, g2, _⟩ := h1.se irr h
    exact ⟨j, g1, by rw [g2]; exact h2⟩
  · rintro ⟨i, h1, h2⟩
    obtain ⟨j, g1, g2, _⟩ := h1.se irr h.symm
    exact ⟨j, g1, by rw [g2]; exact h2⟩
/-! ### lengths -/
def absT (t : Int) : Int := if t < 0 then -t else t
theorem absT_nn (t : Int) : 0 ≤ absT t := by unfold absT; split <;> omega
theorem absT_add (t q : Int) : absT (t + q) ≤ absT t + absT q := by unfold absT; split <;> split <;> split <;> omega
theorem lenL_def {xs : List Step} : lenL xs = (xs.map fun s => absT s.2).sum := rfl
theorem lenL_cons {s : Step} {xs : List Step} : lenL (s :: xs) = absT s.2 + lenL xs := by simp [lenL_def]
theorem lenL_app {xs ys : List Step} : lenL (xs ++ ys) = lenL xs + lenL ys := by
  induction xs with
  | nil => simp [lenL_def]
  | cons a xs ih => rw [List.cons_append, lenL_cons, lenL_cons, ih]; omega
theorem lenL_nn : ∀ (xs : List Step), 0 ≤ lenL xs
  | [] => by simp [lenL_def]
  | s :: xs => by
    have := lenL_nn xs
    have := absT_nn s.2
    rw [lenL_cons]
    omega
theorem lenL_perm {xs ys : List Step} (h : xs.Perm ys) : lenL xs = lenL ys := by
  induction h with
  | nil => rfl
  | cons x _ ih => rw [lenL_cons, lenL_cons, ih]
  | swap x y l => simp only [lenL_cons]; omega
  | trans _ _ ih1 ih2 => exact ih1.trans ih2
theorem lenL_push (irr : Irr F) {xs : List Step} {s : Step} : lenL (pushL F xs s) ≤ lenL xs + absT s.2 := by
  obtain ⟨a, q⟩ := s
  by_cases hl : LastP F xs a
  · obtain ⟨u, t, v, rfl, hv⟩ := hl
    rw [pushL_A irr hv]
    have := absT_nn t
    have := absT_nn q
    have := absT_add t q
    split <;> simp only [lenL_app, lenL_cons] <;> omega
  · rw [pushL_B irr hl, lenL_app, lenL_cons]
    simp [lenL_def]
theorem lenL_fold (irr : Irr F) : ∀ (w xs : List Step), lenL (w.foldl (pushL F) xs) ≤ lenL xs + lenL w
  | [], xs => by simp [lenL_def]
  | s :: w, xs => by
    have h1 := lenL_fold irr w (pushL F xs s)
    have h2 := lenL_push irr (xs := xs) (s := s)
    rw [List.foldl_cons, lenL_cons]
    omega
theorem lenL_pile (irr : Irr F) {w : List Step} : lenL (pileL F w) ≤ lenL w := by
  have := lenL_fold irr w []
  simpa [lenL_def, pileL] using this
theorem lenL_mem {xs : List Step} {s : Step} (h : s ∈ xs) : absT s.2 ≤ lenL xs := by
  induction xs with
  | nil => cases h
  | cons x xs ih =>
    have := lenL_nn xs
    have := absT_nn x.2
    rw [lenL_cons]
    rcases List.mem_cons.mp h with g | g
    · rw [g]; omega
    · have := ih g; omega
theorem lenL_le {n : Int} (h0 : 0 ≤ n) : ∀ {xs : List Step}, (∀ s ∈ xs, absT s.2 ≤ n) → lenL xs ≤ n * xs.length
  | [], _ => by simp [lenL_def]
  | s :: xs, h => by
    have h1 := lenL_le h0 fun y hy => h y (List.mem_cons_of_mem _ hy)
    have h2 := h s List.mem_cons_self
    rw [lenL_cons, List.length_cons, Int.natCast_add, Int.mul_add]
    simp only [Int.cast_ofNat_Int, Int.mul_one]
    omega
end
end DP

set_option Elab.async false
set_option linter.all false
set_option maxRecDepth 100000
set_option maxHeartbeats 1000000
/-! Mt6: piles are the words of a group. -/
namespace DP
open PySem L2
section
variable {F : Fd}
theorem NZ.app {x y : List Step} (h : NZ x) (k : NZ y) : NZ (x ++ y) := fun s hs => by
  rcases List.mem_append.mp hs with g | g
  · exact h s g
  · exact k s g
theorem NZ.left {x y : List Step} (h : NZ (x ++ y)) : NZ x := fun s hs => h s (List.mem_append_left _ hs)
theorem NZ.right {x y : List Step} (h : NZ (x ++ y)) : NZ y := fun s hs => h s (List.mem_append_right _ hs)
theorem NZ.back {w : List Step} (h : NZ w) : NZ (backL w) := fun s hs => by
  simp only [backL, List.mem_map, List.mem_reverse] at hs
  obtain ⟨t, ht, rfl⟩ := hs
  have := h t ht
  simp only
  omega
theorem backL_cons {s : Step} {w : List Step} : backL (s :: w) = backL w ++ [(s.1, -s.2)] := by simp [backL]
theorem backL_app {x y : List Step} : backL (x ++ y) = backL y ++ backL x := by simp [backL]
theorem backL_back {w : List Step} : backL (backL w) = w := by simp [backL, Function.comp_def]
/-- a pile stands for its word, ahead of anything -/
theorem pile_left (irr : Irr F) {x y : List Step} : pileL F (pileL F x ++ y) = pileL F (x ++ y) := by
  rw [pile_append, pile_append, pile_self irr (pile_red irr)]
theorem pile_push (irr : Irr F) {x w : List Step} {s : Step} (hx : NZ x) (hw : NZ w) (hs : s.2 ≠ 0) : SE F (pileL F (x ++ pushL F w s)) (pileL F (x ++ (w ++ [s]))) := by
  obtain ⟨a, q⟩ := s
  by_cases hl : LastP F w a
  · obtain ⟨u, t, v, rfl, hv⟩ := hl
    rw [pushL_A irr hv]
    have ht : t ≠ 0 := hw (a, t) (by simp)
    have hu : NZ u := hw.left
    have j := pile_join irr (x := x ++ u) (y := v) (a := a) (t := t) (q := q) (hx.app hu) ht hs
    have m : SE F (x ++ (u ++ (a, t) :: v ++ [(a, q)])) (x ++ u ++ (a, t) :: (a, q) :: v) := by
      have h1 : SE F (v ++ (a, q) :: []) ((a, q) :: (v ++ [])) := SE.front irr hv
      rw [List.append_nil] at h1
      have h2 := SE.app (SE.refl (F := F) (u := x ++ u)) (SE.cons (s := (a, t)) h1)
      simpa using h2
    have e : x ++ u ++ (if t + q = 0 then [] else [(a, t + q)]) ++ v = x ++ (if t + q = 0 then u ++ v else u ++ (a, t + q) :: v) := by
      split <;> simp
    rw [← e]
    exact j.symm.trans (pile_se irr m).symm
  · rw [pushL_B irr hl]
    exact SE.refl
theorem pile_right (irr : Irr F) {x : List Step} (hx : NZ x) : ∀ {n : Nat} {y : List Step}, y.length = n → NZ y → SE F (pileL F (x ++ pileL F y)) (pileL F (x ++ y))
  | 0, y, hn, _ => by
    have : y = [] := List.length_eq_zero_iff.mp hn
    subst this
    exact SE.refl
  | n + 1, y, hn, hy => by
    have hne : y ≠ [] := fun e => by rw [e] at hn; cases hn
    obtain ⟨z, s, rfl⟩ : ∃ z s, y = z ++ [s] := ⟨y.dropLast, y.getLast hne, (List.dropLast_concat_getLast hne).symm⟩
    have hz := hy.left
    have hs : s.2 ≠ 0 := hy s (by simp)
    have e1 : pileL F (z ++ [s]) = pushL F (pileL F z) s := by rw [pile_append]; rfl
    rw [e1]
    refine (pile_push irr hx (pile_nz irr hz) hs).trans ?_
    rw [← List.append_assoc, ← List.append_assoc, pile_append, pile_append (x := x ++ z)]
    exact push_cong irr (pile_right irr hx (by simpa using hn) hz)
/-- words of one deed of the group -/
def GE (F : Fd) (x y : List Step) : Prop := SE F (pileL F x) (pileL F y)
theorem GE.refl {x : List Step} : GE F x x := SE.refl
theorem GE.symm {x y : List Step} (h : GE F x y) : GE F y x := SE.symm h
theorem GE.trans {x y z : List Step} (h : GE F x y) (k : GE F y z) : GE F x z := SE.trans h k
theorem GE.pile (irr : Irr F) {x : List Step} : GE F (pileL F x) x := by
  unfold GE
  rw [pile_self irr (pile_red irr)]
  exact SE.refl
theorem GE.of_se (irr : Irr F) {x y : List Step} (h : SE F x y) : GE F x y := pile_se irr h
theorem GE.app (irr : Irr F) {x y u v : List Step} (hx : NZ x) (hy : NZ y) (hu : NZ u) (hv : NZ v) (h : GE F x y) (k : GE F u v) : GE F (x ++ u) (y ++ v) := by
  have h1 : GE F (x ++ u) (y ++ u) := by
    unfold GE
    rw [pile_append, pile_append]
    exact fold_cong irr u h
  refine h1.trans ?_
  have h2 := (pile_right irr hy rfl hu).symm
  have h3 := pile_right irr hy rfl hv
  exact h2.trans ((pile_se irr (SE.app SE.refl k)).trans h3)
theorem back_cancel (irr : Irr F) : ∀ (x u v : List Step), NZ x → NZ u → NZ v → GE F (u ++ (backL x ++ x) ++ v) (u ++ v)
  | [], u, v, _, _, _ => by simp [backL]; exact GE.refl
  | s :: x, u, v, hx, hu, hv => by
    have hs : s.2 ≠ 0 := hx s List.mem_cons_self
    have hx' : NZ x := fun t ht => hx t (List.mem_cons_of_mem _ ht)
    have j := pile_join irr (x := u ++ backL x) (y := x ++ v) (a := s.1) (t := -s.2) (q := s.2) (hu.app hx'.back) (by omega) hs
    rw [if_pos (by omega)] at j
    have ih := back_cancel irr x u v hx' hu hv
    unfold GE at ih ⊢
    rw [backL_cons]
    simp only [List.append_assoc, List.cons_append, List.nil_append, List.append_nil] at j ih ⊢
    exact j.trans ih
theorem cancel_back (irr : Irr F) {x u v : List Step} (hx : NZ x) (hu : NZ u) (hv : NZ v) : GE F (u ++ (x ++ backL x) ++ v) (u ++ v) := by
  have := back_cancel irr (backL x) u v hx.back hu hv
  rwa [backL_back] at this
theorem GE.back (irr : Irr F) {x y : List Step} (hx : NZ x) (hy : NZ y) (h : GE F x y) : GE F (backL x) (backL y) := by
  have h1 : GE F (backL x) (backL x ++ (y ++ backL y)) := by
    have := (cancel_back irr hy hx.back NZ.nil (F := F)).symm
    simpa using this
  have h2 : GE F (backL x ++ (y ++ backL y)) (backL x ++ (x ++ backL y)) :=
    GE.app irr hx.back hx.back (hy.app hy.back) (hx.app hy.back) GE.refl (GE.app irr hy hx hy.back hy.back h.symm GE.refl)
  have h3 : GE F (backL x ++ (x ++ backL y)) (backL y) := by
    have := back_cancel irr x [] (backL y) hx NZ.nil hy.back (F := F)
    simpa using this
  exact h1.trans (h2.trans h3)
/-- how long a deed is -/
def gl (F : Fd) (x : List Step) : Int := lenL (pileL F x)
theorem GE.gl (irr : Irr F) {x y : List Step} (h : GE F x y) : gl F x = gl F y := lenL_perm (SE.perm irr h)
theorem gl_le (irr : Irr F) {x : List Step} : gl F x ≤ lenL x := lenL_pile irr
theorem lenL_backL {w : List Step} : lenL (backL w) = lenL w := by
  have h1 : lenL (w.map fun s => (s.1, -s.2)) = lenL w := by
    induction w with
    | nil => rfl
    | cons s w ih =>
      rw [List.map_cons, lenL_cons, lenL_cons, ih]
      unfold absT
      simp only
      split <;> split <;> omega
  rw [← h1]
  refine lenL_perm ?_
  unfold backL
  exact (List.reverse_perm _).map _
theorem gl_back (irr : Irr F) {x : List Step} (hx : NZ x) : gl F (backL x) = gl F x := by
  have key : ∀ {x : List Step}, NZ x → gl F (backL x) ≤ gl F x := by
    intro x hx
    have h1 : GE F (backL x) (backL (pileL F x)) := GE.back irr hx (pile_nz irr hx) (GE.pile irr).symm
    rw [h1.gl irr]
    refine Int.le_trans (gl_le irr) ?_
    rw [lenL_backL]
    exact Int.le_refl _
  have h1 := key hx
  have h2 := key hx.back
  rw [backL_back] at h2
  omega
theorem gl_app (irr : Irr F) {x y : List Step} (hx : NZ x) (hy : NZ y) : gl F (x ++ y) ≤ gl F x + gl F y := by
  have h1 : GE F (x ++ y) (pileL F x ++ pileL F y) := GE.app irr hx (pile_nz irr hx) hy (pile_nz irr hy) (GE.pile irr).symm (GE.pile irr).symm
  rw [h1.gl irr]
  refine Int.le_trans (gl_le irr) ?_
  rw [lenL_app]
  exact Int.le_refl _
theorem lenL_pos {w : List Step} (h : NZ w) (e : lenL w = 0) : w = [] := by
  cases w with
  | nil => rfl
  | cons s w =>
    exfalso
    rw [lenL_cons] at e
    have h1 := lenL_nn w
    have h2 := h s List.mem_cons_self
    unfold absT at e
    split at e <;> omega
end
end DP

set_option Elab.async false
set_option linter.all false
set_option maxRecDepth 100000
set_option maxHeartbeats 1000000
/-! Sp14: the law's helpers of k85. -/
namespace DP
open PySem L2
open En (iv da)
def minN (a b : Nm) : Nm := if b < a then b else a
def maxN (a b : Nm) : Nm := if a < b then b else a
theorem bi_minN {a b : Nm} {os : OS} : biF .min [.iv (iv a), .iv (iv b)] os = .ok (.iv (iv (minN a b))) os := by
  show Res.ok (PV.iv (.str (if PySem.W.dataLt (.str b.s) (.str a.s) = true then b.s else a.s))) os = _
  have h : PySem.W.dataLt (.str b.s) (.str a.s) = decide (b < a) := dataLt_nm b a
  rw [h]
  unfold minN
  by_cases q : b < a <;> simp [q] <;> rfl
theorem bi_maxN {a b : Nm} {os : OS} : biF .max [.iv (iv a), .iv (iv b)] os = .ok (.iv (iv (maxN a b))) os := by
  show Res.ok (PV.iv (.str (if PySem.W.dataLt (.str a.s) (.str b.s) = true then b.s else a.s))) os = _
  have h : PySem.W.dataLt (.str a.s) (.str b.s) = decide (a < b) := dataLt_nm a b
  rw [h]
  unfold maxN
  by_cases q : a < b <;> simp [q] <;> rfl
theorem ap_minmax {F : Fd} (v : VF F) {a b : Nm} : hasB (minN a b, maxN a b) F.pairs = F.ap a b := by
  have no : ∀ {x y : Nm}, ¬ x < y → hasB (x, y) F.pairs = false := fun {x y} h => by
    cases q : hasB (x, y) F.pairs with
    | false => rfl
    | true => exact absurd (v.pr _ (hasB_iff.mp q)).2.2 h
  unfold minN maxN Fd.ap
  by_cases h1 : b < a
  · rw [if_pos h1, if_neg (nm_asymm h1), no (nm_asymm h1)]
    rfl
  · rw [if_neg h1]
    by_cases h2 : a < b
    · rw [if_pos h2, no h1, Bool.or_false]
    · have := nm_conn h1 h2
      subst this
      rw [if_neg h2, Bool.or_self]
abbrev pApart2 (F0 : Fn) : Prop := ∀ (F : Fd) (a b : Nm), VF F → F0.run [.iv F.iv, .iv (iv a), .iv (iv b)] [] = .ok (.iv (.bl (F.ap a b))) []
theorem run_apart2 {fs : FS} : pApart2 (fnD fs d_law_apart_v2) := by
  intro F a b v
  have e1 := cmp_in_tup (α := Nm × Nm) (os := []) (a := (minN a b, maxN a b)) (xs := F.pairs) (by decide)
  simp only [iv_pair] at e1
  have z2 : szOk 2 = true := rfl
  simp [fnD_run, d_law_apart_v2, Fd.iv, bi_minN, bi_maxN, z2, e1, ap_minmax v]
end DP

set_option Elab.async false
set_option linter.all false
set_option maxRecDepth 100000
set_option maxHeartbeats 1000000
/-! Sp15: the law's meeting steps (k85). -/
namespace DP
open PySem L2
open En (iv da)
abbrev LAp2 (fs : FS) : Prop := Sp0 fs 41 [false, false, false] pApart2
theorem LAp2.call {fs : FS} (h : LAp2 fs) {F : Fd} (v : VF F) {a b : Nm} {os : OS} : callN fs false 41 [.iv F.iv, .iv (iv a), .iv (iv b)] os = .ok (.iv (.bl (F.ap a b))) os := by
  rw [Sp0.c3 h fun F0 p => p F a b v, adopt_fiv]
abbrev metIn : List S := [.ife (.cmp .Eq (.idx (.idx (.v 1) (.v 3)) (.c (.int 0))) (.idx (.idx (.v 1) (.v 2)) (.c (.int 0)))) [.ret (.tup [.v 2, .v 3])] [],
    .ife (.not (.call false 41 [.v 0, .idx (.idx (.v 1) (.v 2)) (.c (.int 0)), .idx (.idx (.v 1) (.v 3)) (.c (.int 0))])) [.brk] []]
theorem meet_inner {fs : FS} (h : LAp2 fs) {F : Fd} (v : VF F) {xs : List Step} {sq : List IV → IV} (hq : sq = .tup ∨ sq = .lst) {k : Nat} (hk : k < xs.length) : ∀ (d j : Nat) (p : Option PV), j + d = xs.length →
    (∀ i, scanL F xs[k].1 (xs.drop j) j = some i → forGo (turnF fs (.n 3) metIn) (rngL j d) [some (.iv F.iv), some (.iv (sq (xs.map iv))), some (.iv (.int k)), p] [] = .rt (.iv (.tup [.int k, .int i])) []) ∧
    (scanL F xs[k].1 (xs.drop j) j = none → ∃ p', forGo (turnF fs (.n 3) metIn) (rngL j d) [some (.iv F.iv), some (.iv (sq (xs.map iv))), some (.iv (.int k)), p] [] = .nx [some (.iv F.iv), some (.iv (sq (xs.map iv))), some (.iv (.int k)), p'] []) := by
  intro d
  induction d with
  | zero =>
    intro j p hj
    rw [List.drop_eq_nil_of_le (by omega)]
    exact ⟨fun i hi => by simp [scanL] at hi, fun _ => ⟨p, rfl⟩⟩
  | succ d ih =>
    intro j p hj
    have hj' : j < xs.length := by omega
    rw [drop_cons_of hj', getD_of hj', scanL, rngL_succ]
    have z2 : szOk 2 = true := rfl
    have c0 : ∀ os, cmpPV os .Eq (.iv (iv xs[j].1)) (.iv (iv xs[k].1)) = some (decide (xs[j].1 = xs[k].1)) := fun os => cmp_eq (by decide)
    by_cases h1 : xs[j].1 = xs[k].1
    · refine ⟨fun i hi => ?_, fun hn => by simp [h1] at hn⟩
      simp only [h1, if_true, Option.some.injEq] at hi
      subst hi
      rw [decide_eq_true h1] at c0
      simp [forGo, turnF, idx_sq hq, atI_map hj', atI_map hk, c0, z2]
    · rw [decide_eq_false h1] at c0
      cases h2 : F.ap xs[j].1 xs[k].1 with
      | true =>
        have h2' : F.ap xs[k].1 xs[j].1 = true := by rw [F.ap_comm]; exact h2
        obtain ⟨r1, r2⟩ := ih (j + 1) (some (.iv (.int j))) (by omega)
        have tn : turnF fs (.n 3) metIn (.int j) [some (.iv F.iv), some (.iv (sq (xs.map iv))), some (.iv (.int k)), p] [] = .nx [some (.iv F.iv), some (.iv (sq (xs.map iv))), some (.iv (.int k)), some (.iv (.int j))] [] := by
          simp [turnF, idx_sq hq, atI_map hj', atI_map hk, c0, h.call v, h2']
        have e2 : ((j : Int) + 1) = ((j + 1 : Nat) : Int) := by omega
        simp only [forGo, tn, h1, if_false, if_true, e2]
        exact ⟨r1, r2⟩
      | false =>
        have h2' : F.ap xs[k].1 xs[j].1 = false := by rw [F.ap_comm]; exact h2
        refine ⟨fun i hi => by simp [h1] at hi, fun _ => ⟨some (.iv (.int j)), ?_⟩⟩
        have tn : turnF fs (.n 3) metIn (.int j) [some (.iv F.iv), some (.iv (sq (xs.map iv))), some (.iv (.int k)), p] [] = .bk [some (.iv F.iv), some (.iv (sq (xs.map iv))), some (.iv (.int k)), some (.iv (.int j))] [] := by
          simp [turnF, idx_sq hq, atI_map hj', atI_map hk, c0, h.call v, h2']
        simp only [forGo, tn]
abbrev pMeet2 (F0 : Fn) : Prop := ∀ (F : Fd) (xs : List Step) (sq : List IV → IV), VF F → (sq = .tup ∨ sq = .lst) → xs.length < 900000 → F0.run [.iv F.iv, .iv (sq (xs.map iv))] [] = .ok (.iv (metIV (metL F xs 0))) []
abbrev meetBd : List S := [.for (.n 3) (.rng2 (.bin .Add (.v 2) (.c (.int 1))) (.bi .len [.v 1])) metIn]
theorem meet_outer {fs : FS} (h : LAp2 fs) {F : Fd} (v : VF F) {xs : List Step} {sq : List IV → IV} (hq : sq = .tup ∨ sq = .lst) (hl : xs.length < 900000) : ∀ (d k : Nat) (p r : Option PV), k + d = xs.length →
    (∀ ij, metL F (xs.drop k) k = some ij → forGo (turnF fs (.n 2) meetBd) (rngL k d) [some (.iv F.iv), some (.iv (sq (xs.map iv))), p, r] [] = .rt (.iv (metIV (some ij))) []) ∧
    (metL F (xs.drop k) k = none → ∃ p' r', forGo (turnF fs (.n 2) meetBd) (rngL k d) [some (.iv F.iv), some (.iv (sq (xs.map iv))), p, r] [] = .nx [some (.iv F.iv), some (.iv (sq (xs.map iv))), p', r'] []) := by
  intro d
  induction d with
  | zero =>
    intro k p r hk
    rw [List.drop_eq_nil_of_le (by omega)]
    exact ⟨fun i hi => by simp [metL] at hi, fun _ => ⟨p, r, rfl⟩⟩
  | succ d ih =>
    intro k p r hk
    have hk' : k < xs.length := by omega
    rw [drop_cons_of hk', getD_of hk', metL, rngL_succ]
    obtain ⟨i1, i2⟩ := meet_inner h v (xs := xs) hq (k := k) hk' (xs.length - (k + 1)) (k + 1) r (by omega)
    have hi : denI fs (.rng2 (.bin .Add (.v 2) (.c (.int 1))) (.bi .len [.v 1])) [some (.iv F.iv), some (.iv (sq (xs.map iv))), some (.iv (.int k)), r] [] = .ok (rngL ((k + 1 : Nat) : Int) (xs.length - (k + 1))) [] := by
      have e1 : denE fs (.bin .Add (.v 2) (.c (.int 1))) [some (.iv F.iv), some (.iv (sq (xs.map iv))), some (.iv (.int k)), r] [] = .ok (.iv (.int ((k + 1 : Nat) : Int))) [] := rfl
      have e2 : denE fs (.bi .len [.v 1]) [some (.iv F.iv), some (.iv (sq (xs.map iv))), some (.iv (.int k)), r] [] = .ok (.iv (.int xs.length)) [] := by
        rw [e_bi, ps_cons, e_v, getV_succ, getV_zero, bind_ok, ps_nil, bind_ok, bind_ok, len_sq hq, List.length_map]
      rw [i_rng2, e1, bind_ok, e2, bind_ok, rng2_int (rngOk_of (by omega) (by omega)) (rngOk_of (by omega) (by omega))]
      congr 2
      omega
    have tn : turnF fs (.n 2) meetBd (.int k) [some (.iv F.iv), some (.iv (sq (xs.map iv))), p, r] [] = (forGo (turnF fs (.n 3) metIn) (rngL ((k + 1 : Nat) : Int) (xs.length - (k + 1))) [some (.iv F.iv), some (.iv (sq (xs.map iv))), some (.iv (.int k)), r] []).then fun env os => .nx env os := by
      show denSs fs meetBd [some (.iv F.iv), some (.iv (sq (xs.map iv))), some (.iv (.int k)), r] [] = _
      rw [z_cons, s_for, hi, toSR_ok]
      simp only [z_nil]
    have e2 : ((k : Int) + 1) = ((k + 1 : Nat) : Int) := by omega
    cases hs : scanL F xs[k].1 (xs.drop (k + 1)) (k + 1) with
    | some j =>
      rw [i1 j hs] at tn
      refine ⟨fun ij hij => ?_, fun hn => by simp at hn⟩
      simp only [Option.some.injEq] at hij
      subst hij
      simp only [forGo, tn, then_rt]
      rfl
    | none =>
      obtain ⟨p', e⟩ := i2 hs
      rw [e] at tn
      obtain ⟨r1, r2⟩ := ih (k + 1) (some (.iv (.int k))) p' (by omega)
      simp only [forGo, tn, then_nx, e2]
      exact ⟨r1, r2⟩
theorem run_meet2 {fs : FS} (h : LAp2 fs) : pMeet2 (fnD fs d_law_meet) := by
  intro F xs sq v hq hl
  obtain ⟨r1, r2⟩ := meet_outer h v (xs := xs) hq hl xs.length 0 none none (by omega)
  rw [List.drop_zero] at r1 r2
  rw [fnD_run]
  show finish 0 (denSs fs [.for (.n 2) (.rng1 (.bi .len [.v 1])) meetBd, .ret (.c .non)] [some (.iv F.iv), some (.iv (sq (xs.map iv))), none, none] []) = _
  rw [z_cons, for_len hq rfl (by simp; omega), List.length_map]
  have z0 : ((0 : Nat) : Int) = 0 := rfl
  rw [z0] at r1 r2
  cases hm : metL F xs 0 with
  | some ij => rw [r1 ij hm]; rfl
  | none =>
    obtain ⟨p, r, e⟩ := r2 hm
    rw [e]
    simp [metIV]
end DP

set_option Elab.async false
set_option linter.all false
set_option maxRecDepth 100000
set_option maxHeartbeats 1000000
/-! Sp16: the law's piles (k85). -/
namespace DP
open PySem L2
open En (iv da)
theorem lstep_two {xs : List Step} {i j : Nat} (h : i < j) (hj : j < xs.length) (a : List Step) : (xs.take j ++ xs.drop (j + 1)).take i ++ a ++ (xs.take j ++ xs.drop (j + 1)).drop (i + 1) = xs.take i ++ a ++ ((xs.drop (i + 1)).take (j - (i + 1)) ++ xs.drop (j + 1)) := by
  have h1 : (xs.take j ++ xs.drop (j + 1)).take i = xs.take i := by
    rw [List.take_append_of_le_length (by simp; omega), List.take_take]
    congr 1
    omega
  have h2 : (xs.take j ++ xs.drop (j + 1)).drop (i + 1) = (xs.drop (i + 1)).take (j - (i + 1)) ++ xs.drop (j + 1) := by
    rw [List.drop_append_of_le_length (by simp; omega), List.drop_take]
  rw [h1, h2]
abbrev pileBd : List S := [.par [4, 5] [.idx (.idx (.v 2) (.idx (.v 3) (.c (.int 0)))) (.c (.int 0)), .bin .Add (.idx (.idx (.v 2) (.idx (.v 3) (.c (.int 0)))) (.c (.int 1))) (.idx (.idx (.v 2) (.idx (.v 3) (.c (.int 1)))) (.c (.int 1)))],
    .asg (.n 2) (.bin .Add (.sHi (.v 2) (.idx (.v 3) (.c (.int 1)))) (.sLo (.v 2) (.bin .Add (.idx (.v 3) (.c (.int 1))) (.c (.int 1))))),
    .asg (.n 2) (.bin .Add (.bin .Add (.sHi (.v 2) (.idx (.v 3) (.c (.int 0)))) (.bin .Mult (.lst false [.tup [.v 4, .v 5]]) (.bi .int [.cmp .NotEq (.v 5) (.c (.int 0))]))) (.sLo (.v 2) (.bin .Add (.idx (.v 3) (.c (.int 0))) (.c (.int 1))))),
    .asg (.n 3) (.call false 42 [.v 0, .v 2])]
theorem pile2_turn {fs : FS} (h : Sp0 fs 42 [false, false] pMeet2) {F : Fd} (v : VF F) {S0 : PV} {xs : List Step} {i j : Nat} {p4 p5 : Option PV} (hl : xs.length < 900000) (hij : i < j) (hj : j < xs.length) :
    ∃ q4 q5, denSs fs pileBd [some (.iv F.iv), some S0, some (.iv (.lst (xs.map iv))), some (.iv (metIV (some (i, j)))), p4, p5] [] = .nx [some (.iv F.iv), some S0, some (.iv (.lst ((lstepL xs i j).map iv))), some (.iv (metIV (metL F (lstepL xs i j) 0))), q4, q5] [] := by
  have hi : i < xs.length := by omega
  have hz := lstepL_len hij hj
  have i0 : ∀ os, idxF (.iv (metIV (some (i, j)))) (.iv (.int 0)) os = .ok (.iv (.int i)) os := fun os => by simp [metIV]
  have i1 : ∀ os, idxF (.iv (metIV (some (i, j)))) (.iv (.int 1)) os = .ok (.iv (.int j)) os := fun os => by simp [metIV]
  generalize metIV (some (i, j)) = M at i0 i1
  have c1 : ∀ ys : List Step, cutI (ys.map iv) none (some (j : Int)) = (ys.take j).map iv := fun ys => by rw [cutI_map, cut_hi]
  have c2 : ∀ ys : List Step, cutI (ys.map iv) (some ((j : Int) + 1)) none = (ys.drop (j + 1)).map iv := fun ys => by rw [cutI_map, show ((j : Int) + 1) = ((j + 1 : Nat) : Int) by omega, cut_lo]
  have c3 : ∀ ys : List Step, cutI (ys.map iv) none (some (i : Int)) = (ys.take i).map iv := fun ys => by rw [cutI_map, cut_hi]
  have c4 : ∀ ys : List Step, cutI (ys.map iv) (some ((i : Int) + 1)) none = (ys.drop (i + 1)).map iv := fun ys => by rw [cutI_map, show ((i : Int) + 1) = ((i + 1 : Nat) : Int) by omega, cut_lo]
  have st2 := bin_add_lst (os := []) (xs := (xs.take j).map iv) (ys := (xs.drop (j + 1)).map iv) (by simp; omega)
  rw [← List.map_append] at st2
  generalize hy : xs.take j ++ xs.drop (j + 1) = ys at st2
  have hyl : ys.length < 900000 := by rw [← hy]; simp; omega
  have mid : denE fs (.bin .Mult (.lst false [.tup [.v 4, .v 5]]) (.bi .int [.cmp .NotEq (.v 5) (.c (.int 0))])) [some (.iv F.iv), some S0, some (.iv (.lst (ys.map iv))), some (.iv M), some (.iv (iv xs[i].1)), some (.iv (.int (xs[i].2 + xs[j].2)))] [] = .ok (.iv (.lst ((if xs[i].2 + xs[j].2 = 0 then ([] : List Step) else [(xs[i].1, xs[i].2 + xs[j].2)]).map iv))) [] := by
    have z1 : szOk 1 = true := rfl
    have z2 : szOk 2 = true := rfl
    by_cases q : xs[i].2 + xs[j].2 = 0
    · have b : biF .int [.iv (.bl false)] [] = .ok (.iv (.int 0)) [] := rfl
      have m : binF .Mult (.iv (.lst [.tup [iv xs[i].1, .int 0]])) (.iv (.int 0)) [] = .ok (.iv (.lst [])) [] := rfl
      simp [q, z1, z2, b, m]
    · have b : biF .int [.iv (.bl true)] [] = .ok (.iv (.int 1)) [] := rfl
      have m : ∀ x : IV, binF .Mult (.iv (.lst [x])) (.iv (.int 1)) [] = .ok (.iv (.lst [x])) [] := fun x => rfl
      simp [q, z1, z2, b, m]
      rfl
  have st3 := bin_add_lst (os := []) (xs := (ys.take i).map iv) (ys := (if xs[i].2 + xs[j].2 = 0 then ([] : List Step) else [(xs[i].1, xs[i].2 + xs[j].2)]).map iv) (by
    have : (if xs[i].2 + xs[j].2 = 0 then ([] : List Step) else [(xs[i].1, xs[i].2 + xs[j].2)]).length ≤ 1 := by split <;> simp
    simp only [List.length_map, List.length_take]
    omega)
  rw [← List.map_append] at st3
  have hls : lstepL xs i j = ys.take i ++ (if xs[i].2 + xs[j].2 = 0 then [] else [(xs[i].1, xs[i].2 + xs[j].2)]) ++ ys.drop (i + 1) := by
    rw [← hy, lstep_two hij hj]
    unfold lstepL
    rw [getD_of hi, getD_of hj]
  have st4 := bin_add_lst (os := []) (xs := (ys.take i ++ (if xs[i].2 + xs[j].2 = 0 then ([] : List Step) else [(xs[i].1, xs[i].2 + xs[j].2)])).map iv) (ys := (ys.drop (i + 1)).map iv) (by
    rw [← List.length_append, ← List.map_append, ← hls, List.length_map]
    omega)
  rw [← List.map_append, ← hls] at st4
  have cm : callN fs false 42 [.iv F.iv, .iv (.lst ((lstepL xs i j).map iv))] [] = .ok (.iv (metIV (metL F (lstepL xs i j) 0))) [] := by
    rw [Sp0.c2 h fun F0 q => q F _ .lst v (.inr rfl) (by omega), adopt_fiv]
  refine ⟨some (.iv (iv xs[i].1)), some (.iv (.int (xs[i].2 + xs[j].2))), ?_⟩
  have s1 : denS fs (.par [4, 5] [.idx (.idx (.v 2) (.idx (.v 3) (.c (.int 0)))) (.c (.int 0)), .bin .Add (.idx (.idx (.v 2) (.idx (.v 3) (.c (.int 0)))) (.c (.int 1))) (.idx (.idx (.v 2) (.idx (.v 3) (.c (.int 1)))) (.c (.int 1)))]) [some (.iv F.iv), some S0, some (.iv (.lst (xs.map iv))), some (.iv M), p4, p5] [] = .nx [some (.iv F.iv), some S0, some (.iv (.lst (xs.map iv))), some (.iv M), some (.iv (iv xs[i].1)), some (.iv (.int (xs[i].2 + xs[j].2)))] [] := by
    simp [i0, i1, atI_map hi, atI_map hj, setAll, iv_int]
  have s2 : denS fs (.asg (.n 2) (.bin .Add (.sHi (.v 2) (.idx (.v 3) (.c (.int 1)))) (.sLo (.v 2) (.bin .Add (.idx (.v 3) (.c (.int 1))) (.c (.int 1)))))) [some (.iv F.iv), some S0, some (.iv (.lst (xs.map iv))), some (.iv M), some (.iv (iv xs[i].1)), some (.iv (.int (xs[i].2 + xs[j].2)))] [] = .nx [some (.iv F.iv), some S0, some (.iv (.lst (ys.map iv))), some (.iv M), some (.iv (iv xs[i].1)), some (.iv (.int (xs[i].2 + xs[j].2)))] [] := by
    rw [s_asg, e_bin, e_sHi]
    simp only [e_sLo, e_bin, e_idx, e_v, e_c, getV_succ, getV_zero, bind_ok, i1, asInt_int, rd, Option.bind_some, slcIV, c1, Option.map_some, lift_some, bin_add_int, c2, st2, toSR_ok, asgP_n]
    rfl
  have s3 : denS fs (.asg (.n 2) (.bin .Add (.bin .Add (.sHi (.v 2) (.idx (.v 3) (.c (.int 0)))) (.bin .Mult (.lst false [.tup [.v 4, .v 5]]) (.bi .int [.cmp .NotEq (.v 5) (.c (.int 0))]))) (.sLo (.v 2) (.bin .Add (.idx (.v 3) (.c (.int 0))) (.c (.int 1)))))) [some (.iv F.iv), some S0, some (.iv (.lst (ys.map iv))), some (.iv M), some (.iv (iv xs[i].1)), some (.iv (.int (xs[i].2 + xs[j].2)))] [] = .nx [some (.iv F.iv), some S0, some (.iv (.lst ((lstepL xs i j).map iv))), some (.iv M), some (.iv (iv xs[i].1)), some (.iv (.int (xs[i].2 + xs[j].2)))] [] := by
    have eH : denE fs (.sHi (.v 2) (.idx (.v 3) (.c (.int 0)))) [some (.iv F.iv), some S0, some (.iv (.lst (ys.map iv))), some (.iv M), some (.iv (iv xs[i].1)), some (.iv (.int (xs[i].2 + xs[j].2)))] [] = .ok (.iv (.lst ((ys.take i).map iv))) [] := by
      rw [e_sHi]
      simp only [e_idx, e_v, e_c, getV_succ, getV_zero, bind_ok, i0, asInt_int, rd, Option.bind_some, slcIV, c3, Option.map_some, lift_some]
    have eL : denE fs (.sLo (.v 2) (.bin .Add (.idx (.v 3) (.c (.int 0))) (.c (.int 1)))) [some (.iv F.iv), some S0, some (.iv (.lst (ys.map iv))), some (.iv M), some (.iv (iv xs[i].1)), some (.iv (.int (xs[i].2 + xs[j].2)))] [] = .ok (.iv (.lst ((ys.drop (i + 1)).map iv))) [] := by
      rw [e_sLo]
      simp only [e_bin, e_idx, e_v, e_c, getV_succ, getV_zero, bind_ok, i0, asInt_int, rd, Option.bind_some, slcIV, c4, Option.map_some, lift_some, bin_add_int]
    rw [s_asg, e_bin, e_bin, eH, bind_ok, mid, bind_ok, st3, bind_ok, eL, bind_ok, st4, toSR_ok]
    rfl
  have s4 : denS fs (.asg (.n 3) (.call false 42 [.v 0, .v 2])) [some (.iv F.iv), some S0, some (.iv (.lst ((lstepL xs i j).map iv))), some (.iv M), some (.iv (iv xs[i].1)), some (.iv (.int (xs[i].2 + xs[j].2)))] [] = .nx [some (.iv F.iv), some S0, some (.iv (.lst ((lstepL xs i j).map iv))), some (.iv (metIV (metL F (lstepL xs i j) 0))), some (.iv (iv xs[i].1)), some (.iv (.int (xs[i].2 + xs[j].2)))] [] := by
    simp [cm]
  rw [z_cons, s1, then_nx, z_cons, s2, then_nx, z_cons, s3, then_nx, z_cons, s4, then_nx, z_nil]
end DP

set_option Elab.async false
set_option linter.all false
set_option maxRecDepth 100000
set_option maxHeartbeats 1000000
/-! Sp17: the law's piles, firsts, lengths (k85). -/
namespace DP
open PySem L2
open En (iv da)
theorem pile2_loop {fs : FS} (h : Sp0 fs 42 [false, false] pMeet2) {F : Fd} (v : VF F) {S0 : PV} : ∀ (n : Nat) (xs : List Step) (m : Nat) (p4 p5 : Option PV), xs.length ≤ n → n < m → xs.length < 900000 →
    ∃ q3 q4 q5, whlGo (denE fs (.cmp .IsNot (.v 3) (.c .non))) (denSs fs pileBd) m [some (.iv F.iv), some S0, some (.iv (.lst (xs.map iv))), some (.iv (metIV (metL F xs 0))), p4, p5] [] = .nx [some (.iv F.iv), some S0, some (.iv (.lst ((lpileL F n xs).map iv))), q3, q4, q5] [] := by
  intro n
  induction n with
  | zero =>
    intro xs m p4 p5 hn hm hl
    obtain ⟨m, rfl⟩ : ∃ j, m = j + 1 := ⟨m - 1, by omega⟩
    have : xs = [] := List.length_eq_zero_iff.mp (by omega)
    subst this
    exact ⟨_, p4, p5, whl_end (os1 := []) rfl⟩
  | succ n ih =>
    intro xs m p4 p5 hn hm hl
    obtain ⟨m, rfl⟩ : ∃ j, m = j + 1 := ⟨m - 1, by omega⟩
    cases e : metL F xs 0 with
    | none =>
      have e2 : lpileL F (n + 1) xs = xs := by simp [lpileL, e]
      rw [e2]
      exact ⟨_, p4, p5, whl_end (os1 := []) rfl⟩
    | some ij =>
      obtain ⟨i, j⟩ := ij
      have hs := metL_spec e
      have hz := lstepL_len (xs := xs) hs.2.1 (by omega)
      obtain ⟨q4, q5, et⟩ := pile2_turn h v (S0 := S0) (p4 := p4) (p5 := p5) hl hs.2.1 (by omega)
      obtain ⟨r3, r4, r5, f2⟩ := ih (lstepL xs i j) m q4 q5 (by omega) (by omega) (by omega)
      have e2 : lpileL F (n + 1) xs = lpileL F n (lstepL xs i j) := by simp [lpileL, e]
      rw [e2]
      refine ⟨r3, r4, r5, ?_⟩
      rw [whl_step (os1 := []) rfl et, f2]
abbrev pPile2 (F0 : Fn) : Prop := ∀ (F : Fd) (xs : List Step) (sq : List IV → IV), VF F → (sq = .tup ∨ sq = .lst) → xs.length < 900000 → F0.run [.iv F.iv, .iv (sq (xs.map iv))] [] = .ok (.iv (.lst ((lpileL F xs.length xs).map iv))) []
theorem run_pile2 {fs : FS} (h : Sp0 fs 42 [false, false] pMeet2) : pPile2 (fnD fs d_law_pile_v2) := by
  intro F xs sq v hq hl
  obtain ⟨q3, q4, q5, f2⟩ := pile2_loop h v (S0 := .iv (sq (xs.map iv))) xs.length xs WF none none (Nat.le_refl _) (by unfold WF; omega) hl
  have cm : callN fs false 42 [.iv F.iv, .iv (.lst (xs.map iv))] [] = .ok (.iv (metIV (metL F xs 0))) [] := by
    rw [Sp0.c2 h fun F0 q => q F _ .lst v (.inr rfl) hl, adopt_fiv]
  rw [fnD_run]
  show finish 0 (denSs fs [.asg (.n 2) (.lstOf false (.v 1)), .asg (.n 3) (.call false 42 [.v 0, .v 2]), .whl (.cmp .IsNot (.v 3) (.c .non)) pileBd, .ret (.v 2)] [some (.iv F.iv), some (.iv (sq (xs.map iv))), none, none, none, none] []) = _
  have s1 : denS fs (.asg (.n 2) (.lstOf false (.v 1))) [some (.iv F.iv), some (.iv (sq (xs.map iv))), none, none, none, none] [] = .nx [some (.iv F.iv), some (.iv (sq (xs.map iv))), some (.iv (.lst (xs.map iv))), none, none, none] [] := by
    simp [lstOfF, rd, seq_sq hq]
  have s2 : denS fs (.asg (.n 3) (.call false 42 [.v 0, .v 2])) [some (.iv F.iv), some (.iv (sq (xs.map iv))), some (.iv (.lst (xs.map iv))), none, none, none] [] = .nx [some (.iv F.iv), some (.iv (sq (xs.map iv))), some (.iv (.lst (xs.map iv))), some (.iv (metIV (metL F xs 0))), none, none] [] := by
    simp [cm]
  rw [z_cons, s1, then_nx, z_cons, s2, then_nx, z_cons, s_whl, f2, then_nx, z_cons, s_ret, e_v, getV_succ, getV_succ, getV_zero, toSR_ok, then_rt]
  rfl
theorem call_pile2 {fs : FS} (h : Sp0 fs 43 [false, false] pPile2) {F : Fd} (v : VF F) {xs : List Step} {sq : List IV → IV} (hq : sq = .tup ∨ sq = .lst) (hl : xs.length < 900000) {os : OS} : callN fs false 43 [.iv F.iv, .iv (sq (xs.map iv))] os = .ok (.iv (.lst ((lpileL F xs.length xs).map iv))) os := by
  rw [Sp0.c2 h fun F0 q => q F xs sq v hq hl, adopt_fiv]
/-! ### lengths, back, far -/
abbrev pLen2 (F0 : Fn) : Prop := ∀ (F : Fd) (xs : List Step) (sq : List IV → IV), VF F → (sq = .tup ∨ sq = .lst) → xs.length < 900000 → F0.run [.iv F.iv, .iv (sq (xs.map iv))] [] = .ok (.iv (.int (lenL (lpileL F xs.length xs)))) []
theorem run_len2 {fs : FS} (h : Sp0 fs 43 [false, false] pPile2) : pLen2 (fnD fs d_law_length_v2) := by
  intro F xs sq v hq hl
  have hp := lpileL_len (F := F) (n := xs.length) (xs := xs)
  generalize hy : lpileL F xs.length xs = ys at hp
  have cc : compGo (compStep [2, 3] (.t [.n 2, .n 3]) (wipeE [some (.iv F.iv), some (.iv (sq (xs.map iv))), none, none] [2, 3]) (denTs fs []) (denE fs (.bi .abs [.v 3]))) (ys.map iv) [] [] = .ok (ys.map fun s => IV.int (if s.2 < 0 then -s.2 else s.2)) [] :=
    compGo_m (g := fun s : Step => IV.int (if s.2 < 0 then -s.2 else s.2)) ys (fun s _ => by
      have tn : compStep [2, 3] (.t [.n 2, .n 3]) (wipeE [some (.iv F.iv), some (.iv (sq (xs.map iv))), none, none] [2, 3]) (denTs fs []) (denE fs (.bi .abs [.v 3])) (iv s) [] = ((denE fs (.bi .abs [.v 3]) [some (.iv F.iv), some (.iv (sq (xs.map iv))), some (.iv (iv s.1)), some (.iv (.int s.2))] []).noX.bind fun v os2 => (match v with
        | .iv y => .ok (some y) os2
        | .ref _ => .bad)) := rfl
      rw [tn]
      simp) (by omega)
  have c := call_pile2 (os := []) h v hq hl
  rw [hy] at c
  simp [fnD_run, d_law_length_v2, c, itIV, cc, sum_ints, lenL]
theorem run_back2 {fs : FS} : pLBack (fnD fs d_law_back_v2) := by
  intro xs sq hq hl
  have cc : compGo (compStep [1, 2] (.t [.n 1, .n 2]) (wipeE [some (.iv (sq (xs.map iv))), none, none] [1, 2]) (denTs fs []) (denE fs (.tup [.v 1, .neg (.v 2)]))) (xs.reverse.map iv) [] [] = .ok (xs.reverse.map fun s : Step => iv ((s.1, -s.2) : Step)) [] :=
    compGo_m (g := fun s : Step => iv ((s.1, -s.2) : Step)) xs.reverse (fun s _ => by
      have tn : compStep [1, 2] (.t [.n 1, .n 2]) (wipeE [some (.iv (sq (xs.map iv))), none, none] [1, 2]) (denTs fs []) (denE fs (.tup [.v 1, .neg (.v 2)])) (iv s) [] = ((denE fs (.tup [.v 1, .neg (.v 2)]) [some (.iv (sq (xs.map iv))), some (.iv (iv s.1)), some (.iv (.int s.2))] []).noX.bind fun v os2 => (match v with
        | .iv y => .ok (some y) os2
        | .ref _ => .bad)) := rfl
      have z2 : szOk 2 = true := rfl
      rw [tn]
      simp [z2]
      rfl) (by simp; omega)
  have rv : revIV (sq (xs.map iv)) = some (sq (xs.reverse.map iv)) := by rcases hq with rfl | rfl <;> simp [revIV]
  simp [fnD_run, d_law_back_v2, rd, rv, it_sq hq, backL]
  simp only [← List.map_reverse, cc]
  simp [Function.comp_def]
end DP

set_option Elab.async false
set_option linter.all false
set_option maxRecDepth 100000
set_option maxHeartbeats 1000000
/-! Sp18: the law's firsts and least piles (k85). -/
namespace DP
open PySem L2
open En (iv da)
abbrev pFirst2 (F0 : Fn) : Prop := ∀ (F : Fd) (xs : List Step) (sq : List IV → IV), VF F → (sq = .tup ∨ sq = .lst) → xs.length < 900000 → F0.run [.iv F.iv, .iv (sq (xs.map iv))] [] = .ok (.ob (.lst ((lfirstL F xs).map fun k : Nat => IV.int (k : Int)))) []
abbrev lf2Body : List S := [.ife (.cmp .Eq (.lc false [4] (.n 4) (.it (.sHi (.v 1) (.v 3))) [.not (.call false 41 [.v 0, .idx (.v 4) (.c (.int 0)), .idx (.idx (.v 1) (.v 3)) (.c (.int 0))])] (.v 4)) (.lst false [])) [.ex (.app (.v 2) (.v 3))] []]
theorem first2_turn {fs : FS} (h : LAp2 fs) {F : Fd} (v : VF F) {xs : List Step} {sq : List IV → IV} (hq : sq = .tup ∨ sq = .lst) (hl : xs.length < 900000) {k : Nat} (hk : k < xs.length) {acc : List IV} (ha : acc.length < 900000) {p : Option PV} :
    turnF fs (.n 3) lf2Body (.int k) [some (.iv F.iv), some (.iv (sq (xs.map iv))), some (.ref 0), p, none] [.lst acc] = .nx [some (.iv F.iv), some (.iv (sq (xs.map iv))), some (.ref 0), some (.iv (.int k)), none] [.lst (acc ++ if lfirstB F xs k = true then [.int (k : Int)] else [])] := by
  have c3 : cutI (xs.map iv) none (some (k : Int)) = (xs.take k).map iv := by rw [cutI_map, cut_hi]
  have cc : compGo (compStep [4] (.n 4) (wipeE [some (.iv F.iv), some (.iv (sq (xs.map iv))), some (.ref 0), some (.iv (.int k)), none] [4]) (denTs fs [.not (.call false 41 [.v 0, .idx (.v 4) (.c (.int 0)), .idx (.idx (.v 1) (.v 3)) (.c (.int 0))])]) (denE fs (.v 4))) ((xs.take k).map iv) [] [.lst acc] = .ok (((xs.take k).filter fun s => !F.ap s.1 xs[k].1).map fun s : Step => iv s) [.lst acc] := by
    refine compGo_f (p := fun s : Step => !F.ap s.1 xs[k].1) (g := fun s : Step => iv s) (xs.take k) (fun s _ => ?_) (by simp; omega)
    cases q : F.ap s.1 xs[k].1 <;> simp [compStep, wipeE, h.call v, idx_sq hq, atI_map hk, q]
  have ce : ∀ os, cmpPV os .Eq (.iv (.lst (((xs.take k).filter fun s => !F.ap s.1 xs[k].1).map fun s : Step => iv s))) (.iv (.lst [])) = some (lfirstB F xs k) := by
    intro os
    have := cmp_eq_lst (α := Step) (os := os) (xs := (xs.take k).filter fun s => !F.ap s.1 xs[k].1) (ys := []) (by decide)
    simp only [List.map_nil] at this
    rw [this]
    unfold lfirstB
    rw [getD_of hk]
    congr 1
    cases q : (xs.take k).all fun s => F.ap s.1 xs[k].1 with
    | true =>
      simp only [decide_eq_true_eq, List.filter_eq_nil_iff]
      intro s hs
      have := List.all_eq_true.mp q s hs
      simp [this]
    | false =>
      simp only [decide_eq_false_iff_not, List.filter_eq_nil_iff]
      intro z
      have : (xs.take k).all (fun s => F.ap s.1 xs[k].1) = true := List.all_eq_true.mpr fun s hs => by simpa using z s hs
      rw [this] at q
      cases q
  have sz : acc.length ≤ 16777215 := by omega
  have z0 : szOk 0 = true := rfl
  have el : denE fs (.lc false [4] (.n 4) (.it (.sHi (.v 1) (.v 3))) [.not (.call false 41 [.v 0, .idx (.v 4) (.c (.int 0)), .idx (.idx (.v 1) (.v 3)) (.c (.int 0))])] (.v 4)) [some (.iv F.iv), some (.iv (sq (xs.map iv))), some (.ref 0), some (.iv (.int k)), none] [.lst acc] = .ok (.iv (.lst (((xs.take k).filter fun s => !F.ap s.1 xs[k].1).map fun s : Step => iv s))) [.lst acc] := by
    rw [e_lc, i_it, e_sHi]
    simp only [e_v, getV_succ, getV_zero, bind_ok, asInt_int, rd, Option.bind_some, slc_sq hq, c3, Option.map_some, lift_some, asIv_iv, it_sq hq, cc, mk_false]
  show denSs fs lf2Body [some (.iv F.iv), some (.iv (sq (xs.map iv))), some (.ref 0), some (.iv (.int k)), none] [.lst acc] = _
  rw [z_cons, s_ife, e_cmp, el, bind_ok]
  cases q : lfirstB F xs k <;> simp [ce, q, z0, isL, appF, szOk, sz]
theorem run_first2 {fs : FS} (h : LAp2 fs) : pFirst2 (fnD fs d_law_firsts) := by
  intro F xs sq v hq hl
  have loop : ∀ (d k : Nat) (acc : List IV) (p : Option PV), k + d = xs.length → acc.length ≤ k → ∃ p', forGo (turnF fs (.n 3) lf2Body) (rngL k d) [some (.iv F.iv), some (.iv (sq (xs.map iv))), some (.ref 0), p, none] [.lst acc] = .nx [some (.iv F.iv), some (.iv (sq (xs.map iv))), some (.ref 0), p', none] [.lst (acc ++ (((List.range' k d).filter (lfirstB F xs)).map fun k : Nat => IV.int (k : Int)))] := by
    intro d
    induction d with
    | zero => intro k acc p _ _; exact ⟨p, by simp [rngL, forGo]⟩
    | succ d ih =>
      intro k acc p hk ha
      obtain ⟨p', e⟩ := ih (k + 1) (acc ++ if lfirstB F xs k = true then [.int (k : Int)] else []) (some (.iv (.int k))) (by omega) (by split <;> simp <;> omega)
      refine ⟨p', ?_⟩
      have e2 : ((k : Int) + 1) = ((k + 1 : Nat) : Int) := by omega
      rw [rngL_succ]
      simp only [forGo, first2_turn h v hq hl (show k < xs.length by omega) (show acc.length < 900000 by omega), e2, e, List.range'_succ, List.filter_cons]
      cases q : lfirstB F xs k <;> simp
  obtain ⟨p, e⟩ := loop xs.length 0 [] none (by omega) (by simp)
  have z0 : ((0 : Nat) : Int) = 0 := rfl
  rw [z0] at e
  rw [fnD_run]
  show finish 0 (denSs fs [.asg (.n 2) (.lst true []), .for (.n 3) (.rng1 (.bi .len [.v 1])) lf2Body, .ret (.v 2)] [some (.iv F.iv), some (.iv (sq (xs.map iv))), none, none, none] []) = _
  have s1 : denS fs (.asg (.n 2) (.lst true [])) [some (.iv F.iv), some (.iv (sq (xs.map iv))), none, none, none] [] = .nx [some (.iv F.iv), some (.iv (sq (xs.map iv))), some (.ref 0), none, none] [.lst []] := by
    simp [szOk]
  rw [z_cons, s1, then_nx, z_cons, for_len hq rfl (by simp; omega), List.length_map, e, then_nx]
  simp [finish, notDead, lfirstL, List.range_eq_range']
/-! ### the law's least piles -/
theorem rise_uniq : ∀ {xs ys : List Nat}, xs.Pairwise (· < ·) → ys.Pairwise (· < ·) → (∀ i, i ∈ xs ↔ i ∈ ys) → xs = ys
  | [], [], _, _, _ => rfl
  | [], y :: ys, _, _, h => by have := (h y).mpr List.mem_cons_self; cases this
  | x :: xs, [], _, _, h => by have := (h x).mp List.mem_cons_self; cases this
  | x :: xs, y :: ys, hx, hy, h => by
    have e : x = y := by
      rcases List.mem_cons.mp ((h x).mp List.mem_cons_self) with g | g
      · exact g
      · rcases List.mem_cons.mp ((h y).mpr List.mem_cons_self) with g' | g'
        · exact g'.symm
        · have := List.rel_of_pairwise_cons hy g
          have := List.rel_of_pairwise_cons hx g'
          omega
    subst e
    congr 1
    refine rise_uniq (List.Pairwise.of_cons hx) (List.Pairwise.of_cons hy) fun i => ?_
    constructor
    · intro m
      rcases List.mem_cons.mp ((h i).mp (List.mem_cons_of_mem _ m)) with g | g
      · have := List.rel_of_pairwise_cons hx m; omega
      · exact g
    · intro m
      rcases List.mem_cons.mp ((h i).mpr (List.mem_cons_of_mem _ m)) with g | g
      · have := List.rel_of_pairwise_cons hy m; omega
      · exact g
theorem lfirst_rise {F : Fd} {xs : List Step} : (lfirstL F xs).Pairwise (· < ·) := List.Pairwise.filter _ List.pairwise_lt_range
theorem lfirst_eq {F : Fd} {xs : List Step} (hi : InF F xs) : lfirstL F xs = firstsL F xs F.names 0 :=
  rise_uniq lfirst_rise firstsL_rise fun i => by rw [lfirst_fst, firsts_fst hi]
abbrev ll2Body : List S := [.asg (.n 4) (.idx (.bi .min [.lc false [5] (.n 5) (.it (.call false 44 [.v 0, .v 2])) [] (.tup [.idx (.idx (.v 2) (.v 5)) (.c (.int 0)), .v 5])]) (.c (.int 1))),
    .par [3, 2] [.bin .Add (.v 3) (.tup [.idx (.v 2) (.v 4)]), .bin .Add (.sHi (.v 2) (.v 4)) (.sLo (.v 2) (.bin .Add (.v 4) (.c (.int 1))))]]
theorem least2_turn {fs : FS} (h : Sp0 fs 44 [false, false] pFirst2) {F : Fd} (v : VF F) {S0 : PV} {ys acc : List Step} (hne : ys ≠ []) (hi : InF F ys) (hl : ys.length < 900000) (ha : acc.length < 900000) {p4 : Option PV} :
    ∃ q4, denSs fs ll2Body [some (.iv F.iv), some S0, some (.iv (.lst (ys.map iv))), some (.iv (.tup (acc.map iv))), p4, none] [] = .nx [some (.iv F.iv), some S0, some (.iv (.lst ((ys.eraseIdx (pickL F ys)).map iv))), some (.iv (.tup ((acc ++ [nth ys (pickL F ys)]).map iv))), q4, none] [] := by
  obtain ⟨hp, hp2⟩ := pickL_spec hne hi
  have cf : callN fs false 44 [.iv F.iv, .iv (.lst (ys.map iv))] [] = .ok (.iv (.lst ((firstsL F ys F.names 0).map fun k : Nat => IV.int (k : Int)))) [] := by
    rw [Sp0.c2 h fun F0 q => q F ys .lst v (.inr rfl) hl, adopt_fob, lfirst_eq hi]
  have hfl := firstsL_len (F := F) ys F.names 0
  have z2 : szOk 2 = true := rfl
  have z1 : szOk 1 = true := rfl
  have c1 : compGo (compStep [5] (.n 5) (wipeE [some (.iv F.iv), some S0, some (.iv (.lst (ys.map iv))), some (.iv (.tup (acc.map iv))), p4, none] [5]) (denTs fs []) (denE fs (.tup [.idx (.idx (.v 2) (.v 5)) (.c (.int 0)), .v 5]))) ((firstsL F ys F.names 0).map fun k : Nat => IV.int (k : Int)) [] [] = .ok ((keysL F ys).map iv) [] := by
    rw [compGo_m (g := fun k : Nat => iv (((nth ys k).1, (k : Int)) : Nm × Int))]
    · simp [keysL, List.map_map, Function.comp_def]
    · intro k hk
      have := firstsL_lt hk
      have hk' : k < ys.length := by omega
      simp [compStep, wipeE, atI_map hk', getD_of hk', z2, iv_pair, iv_int]
    · omega
  have cm : biF .min [.iv (.lst ((keysL F ys).map iv))] [] = .ok (.iv (iv (minL (keysL F ys)))) [] := by
    simp [biF, rdAll, rd, biIV, min_p _ (keysL_ne hne hi)]
  refine ⟨some (.iv (.int (pickL F ys))), ?_⟩
  have s1 : denS fs (.asg (.n 4) (.idx (.bi .min [.lc false [5] (.n 5) (.it (.call false 44 [.v 0, .v 2])) [] (.tup [.idx (.idx (.v 2) (.v 5)) (.c (.int 0)), .v 5])]) (.c (.int 1)))) [some (.iv F.iv), some S0, some (.iv (.lst (ys.map iv))), some (.iv (.tup (acc.map iv))), p4, none] [] = .nx [some (.iv F.iv), some S0, some (.iv (.lst (ys.map iv))), some (.iv (.tup (acc.map iv))), some (.iv (.int (pickL F ys))), none] [] := by
    rw [s_asg, e_idx, e_bi, ps_cons, e_lc, i_it, e_call]
    simp only [ps_cons, ps_nil, e_v, e_c, getV_succ, getV_zero, bind_ok, cf, asIv_iv, itIV, lift_some, c1, mk_false, cm]
    have ix : idxF (.iv (iv (minL (keysL F ys)))) (.iv (.int 1)) [] = .ok (.iv (.int (pickL F ys))) [] := by rw [iv_pair, idx_tup, atI_one, ← hp2]; rfl
    rw [ix]
    rfl
  have c3 : cutI (ys.map iv) none (some (pickL F ys : Int)) = (ys.take (pickL F ys)).map iv := by rw [cutI_map, cut_hi]
  have c4 : cutI (ys.map iv) (some ((pickL F ys : Int) + 1)) none = (ys.drop (pickL F ys + 1)).map iv := by rw [cutI_map, show ((pickL F ys : Int) + 1) = ((pickL F ys + 1 : Nat) : Int) by omega, cut_lo]
  have st2 := bin_add_lst (os := []) (xs := (ys.take (pickL F ys)).map iv) (ys := (ys.drop (pickL F ys + 1)).map iv) (by simp; omega)
  rw [← List.map_append, ← List.eraseIdx_eq_take_drop_succ] at st2
  have st1 : binF .Add (.iv (.tup (acc.map iv))) (.iv (.tup [iv ys[pickL F ys]])) [] = .ok (.iv (.tup ((acc ++ [nth ys (pickL F ys)]).map iv))) [] := by
    have : szOk (acc.length + 1) = true := by simp [szOk]; omega
    simp [binF, rd, binIV, this, getD_of hp]
  have s2 : denS fs (.par [3, 2] [.bin .Add (.v 3) (.tup [.idx (.v 2) (.v 4)]), .bin .Add (.sHi (.v 2) (.v 4)) (.sLo (.v 2) (.bin .Add (.v 4) (.c (.int 1))))]) [some (.iv F.iv), some S0, some (.iv (.lst (ys.map iv))), some (.iv (.tup (acc.map iv))), some (.iv (.int (pickL F ys))), none] [] = .nx [some (.iv F.iv), some S0, some (.iv (.lst ((ys.eraseIdx (pickL F ys)).map iv))), some (.iv (.tup ((acc ++ [nth ys (pickL F ys)]).map iv))), some (.iv (.int (pickL F ys))), none] [] := by
    have e1 : denE fs (.bin .Add (.v 3) (.tup [.idx (.v 2) (.v 4)])) [some (.iv F.iv), some S0, some (.iv (.lst (ys.map iv))), some (.iv (.tup (acc.map iv))), some (.iv (.int (pickL F ys))), none] [] = .ok (.iv (.tup ((acc ++ [nth ys (pickL F ys)]).map iv))) [] := by
      simp only [e_bin, e_v, getV_succ, getV_zero, bind_ok, e_tup, es_cons, es_nil, e_idx, idx_lst, atI_map hp, Option.map_some, lift_some, asIv_iv, List.length_cons, List.length_nil, z1, if_true, st1]
    have e2 : denE fs (.bin .Add (.sHi (.v 2) (.v 4)) (.sLo (.v 2) (.bin .Add (.v 4) (.c (.int 1))))) [some (.iv F.iv), some S0, some (.iv (.lst (ys.map iv))), some (.iv (.tup (acc.map iv))), some (.iv (.int (pickL F ys))), none] [] = .ok (.iv (.lst ((ys.eraseIdx (pickL F ys)).map iv))) [] := by
      rw [e_bin, e_sHi]
      simp only [e_sLo, e_bin, e_v, e_c, getV_succ, getV_zero, bind_ok, asInt_int, rd, Option.bind_some, slcIV, c3, Option.map_some, lift_some, bin_add_int, c4, st2]
    rw [s_par, ps_cons, e1, bind_ok, ps_cons, e2, bind_ok, ps_nil, bind_ok, bind_ok, toSR_ok]
    rfl
  rw [z_cons, s1, then_nx, z_cons, s2, then_nx, z_nil]
theorem least2_loop {fs : FS} (h : Sp0 fs 44 [false, false] pFirst2) {F : Fd} (v : VF F) {S0 : PV} : ∀ (n : Nat) (ys acc : List Step) (m : Nat) (p4 : Option PV), ys.length = n → n < m → acc.length + n < 900000 → InF F ys → ∃ q4, whlGo (denE fs (.cmp .NotEq (.v 2) (.lst false []))) (denSs fs ll2Body) m [some (.iv F.iv), some S0, some (.iv (.lst (ys.map iv))), some (.iv (.tup (acc.map iv))), p4, none] [] = .nx [some (.iv F.iv), some S0, some (.iv (.lst [])), some (.iv (.tup ((acc ++ arrL F n ys).map iv))), q4, none] [] := by
  intro n
  induction n with
  | zero =>
    intro ys acc m p4 hy hm _ _
    obtain ⟨m, rfl⟩ : ∃ j, m = j + 1 := ⟨m - 1, by omega⟩
    have : ys = [] := List.length_eq_zero_iff.mp hy
    subst this
    refine ⟨p4, ?_⟩
    rw [whl_end (os1 := []) (by simp [szOk])]
    simp [arrL]
  | succ n ih =>
    intro ys acc m p4 hy hm ha hi
    obtain ⟨m, rfl⟩ : ∃ j, m = j + 1 := ⟨m - 1, by omega⟩
    have hne : ys ≠ [] := fun e => by rw [e] at hy; cases hy
    obtain ⟨hp, _⟩ := pickL_spec hne hi
    obtain ⟨q4, et⟩ := least2_turn h v (S0 := S0) (p4 := p4) hne hi (by omega) (by omega : acc.length < 900000)
    have hlen : (ys.eraseIdx (pickL F ys)).length = n := by rw [List.length_eraseIdx_of_lt hp]; omega
    obtain ⟨r4, f⟩ := ih (ys.eraseIdx (pickL F ys)) (acc ++ [nth ys (pickL F ys)]) m q4 hlen (by omega) (by simp; omega) fun s hs => hi s (List.mem_of_mem_eraseIdx hs)
    refine ⟨r4, ?_⟩
    have ct : denE fs (.cmp .NotEq (.v 2) (.lst false [])) [some (.iv F.iv), some S0, some (.iv (.lst (ys.map iv))), some (.iv (.tup (acc.map iv))), p4, none] [] = .ok (.iv (.bl true)) [] := by
      have ce := cmp_eq_lst (α := Step) (os := []) (xs := ys) (ys := []) (by decide)
      have cn : cmpPV [] .NotEq (.iv (.lst (ys.map iv))) (.iv (.lst [])) = some true := by
        have : cmpPV [] .NotEq (.iv (.lst (ys.map iv))) (.iv (.lst [])) = (cmpPV [] .Eq (.iv (.lst (ys.map iv))) (.iv (.lst []))).map (!·) := rfl
        rw [this]
        simp only [List.map_nil] at ce
        rw [ce, decide_eq_false hne]
        rfl
      have z0 : szOk 0 = true := rfl
      simp [z0, cn]
    rw [whl_step (os1 := []) ct et, f]
    simp [arrL, hne]
abbrev pLeast2 (F0 : Fn) : Prop := ∀ (F : Fd) (xs : List Step) (sq : List IV → IV), VF F → (sq = .tup ∨ sq = .lst) → xs.length < 900000 → InF F (lpileL F xs.length xs) → F0.run [.iv F.iv, .iv (sq (xs.map iv))] [] = .ok (.iv (.tup ((arrL F (lpileL F xs.length xs).length (lpileL F xs.length xs)).map iv))) []
theorem run_least2 {fs : FS} (h : Sp0 fs 44 [false, false] pFirst2) (h43 : Sp0 fs 43 [false, false] pPile2) : pLeast2 (fnD fs d_law_least_v2) := by
  intro F xs sq v hq hl hi
  have hp := lpileL_len (F := F) (n := xs.length) (xs := xs)
  have c := call_pile2 (os := []) h43 v hq hl
  generalize hy : lpileL F xs.length xs = ys at *
  obtain ⟨q4, f⟩ := least2_loop h v (S0 := .iv (sq (xs.map iv))) ys.length ys [] WF none rfl (by unfold WF; omega) (by simp; omega) hi
  rw [fnD_run]
  show finish 0 (denSs fs [.par [2, 3] [.call false 43 [.v 0, .v 1], .tup []], .whl (.cmp .NotEq (.v 2) (.lst false [])) ll2Body, .ret (.v 3)] [some (.iv F.iv), some (.iv (sq (xs.map iv))), none, none, none, none] []) = _
  have s1 : denS fs (.par [2, 3] [.call false 43 [.v 0, .v 1], .tup []]) [some (.iv F.iv), some (.iv (sq (xs.map iv))), none, none, none, none] [] = .nx [some (.iv F.iv), some (.iv (sq (xs.map iv))), some (.iv (.lst (ys.map iv))), some (.iv (.tup (([] : List Step).map iv))), none, none] [] := by
    simp [c, szOk, setAll]
  rw [z_cons, s1, then_nx, z_cons, s_whl, f, then_nx, z_cons, s_ret, e_v, getV_succ, getV_succ, getV_succ, getV_zero, toSR_ok, then_rt]
  simp
end DP

set_option Elab.async false
set_option linter.all false
set_option maxRecDepth 100000
set_option maxHeartbeats 1000000
/-! Sy4: statements one by one, the names' values told by facts alone. -/
namespace DP
open PySem L2
open En (iv da)

/-- the value of a place -/
def gv (o : Option (Option PV)) (os : OS) : Res PV := match o with
  | some (some v) => .ok v os
  | _ => .bad
theorem getV_abs {env : Env} {i : Nat} {os : OS} : getV env i os = gv (env[i]?) os := by
  unfold getV gv
  cases env[i]? with
  | none => rfl
  | some o => cases o <;> rfl
@[simp] theorem gv_some {v : PV} {os : OS} : gv (some (some v)) os = .ok v os := rfl

/-- the value of a place, of names that are told by facts -/
def look (env : Env) (i : Nat) : Option (Option PV) := env[i]?
theorem getV_look {env : Env} {i : Nat} {os : OS} : getV env i os = gv (look env i) os := getV_abs
@[simp] theorem look_ne {env : Env} {i j : Nat} {v : Option PV} (h : i ≠ j) : look (env.set i v) j = look env j := by unfold look; rw [List.getElem?_set_ne h]
@[simp] theorem look_self {env : Env} {i : Nat} {v : Option PV} (h : i < env.length) : look (env.set i v) i = some v := by unfold look; rw [List.getElem?_set_self h]
@[simp] theorem look_zero {v : Option PV} {r : Env} : look (v :: r) 0 = some v := rfl
@[simp] theorem look_succ {v : Option PV} {r : Env} {i : Nat} : look (v :: r) (i + 1) = look r i := rfl
/-- what is wanted of a block's end -/
structure Post where
  nx : Env → OS → Prop := fun _ _ => False
  rt : PV → OS → Prop := fun _ _ => False
  bk : Env → OS → Prop := fun _ _ => False
  ct : Env → OS → Prop := fun _ _ => False
  ex : Str → List Str → List IV → OS → Prop := fun _ _ _ _ => False
@[irreducible] def SR.W (r : SR) (P : Post) : Prop := match r with
  | .nx e o => P.nx e o
  | .rt v o => P.rt v o
  | .bk e o => P.bk e o
  | .ct e o => P.ct e o
  | .exc c ns vs _ o => P.ex c ns vs o
  | .bad => False
section
variable {P : Post} {e : Env} {o : OS} {v : PV} {c : Str} {ns : List Str} {vs : List IV}
theorem W_nx : (SR.nx e o).W P = P.nx e o := by unfold SR.W; rfl
theorem W_rt : (SR.rt v o).W P = P.rt v o := by unfold SR.W; rfl
theorem W_bk : (SR.bk e o).W P = P.bk e o := by unfold SR.W; rfl
theorem W_ct : (SR.ct e o).W P = P.ct e o := by unfold SR.W; rfl
theorem W_exc : (SR.exc c ns vs e o).W P = P.ex c ns vs o := by unfold SR.W; rfl
theorem W_bad : SR.bad.W P = False := by unfold SR.W; rfl
end
/-- as P, but what follows a statement -/
def Post.thn (P : Post) (n : Env → OS → Prop) : Post := { P with nx := n }
section
variable {fs : FS} {env env' : Env} {os os1 : OS} {P P' : Post} {e c : E} {v : PV} {i : Nat} {ss aa bb : List S} {s : S} {r : SR}
theorem SR.W.mono (h : r.W P) (n : ∀ e o, P.nx e o → P'.nx e o) (t : ∀ v o, P.rt v o → P'.rt v o) (b : ∀ e o, P.bk e o → P'.bk e o) (c : ∀ e o, P.ct e o → P'.ct e o) (x : ∀ c ns vs o, P.ex c ns vs o → P'.ex c ns vs o) : r.W P' := by
  cases r with
  | nx e o => rw [W_nx] at *; exact n e o h
  | rt v o => rw [W_rt] at *; exact t v o h
  | bk e o => rw [W_bk] at *; exact b e o h
  | ct e o => rw [W_ct] at *; exact c e o h
  | exc c ns vs e o => rw [W_exc] at *; exact x c ns vs o h
  | bad => rw [W_bad] at h; exact h.elim
theorem W.nil (h : P.nx env os) : (denSs fs [] env os).W P := by rw [z_nil, W_nx]; exact h
theorem W.cons (h : (denS fs s env os).W (P.thn fun e o => (denSs fs ss e o).W P)) : (denSs fs (s :: ss) env os).W P := by
  rw [z_cons]
  cases q : denS fs s env os with
  | nx e o => rw [q, W_nx] at h; exact h
  | rt v o => rw [q, W_rt] at h; rw [then_rt, W_rt]; exact h
  | bk e o => rw [q, W_bk] at h; rw [then_bk, W_bk]; exact h
  | ct e o => rw [q, W_ct] at h; rw [then_ct, W_ct]; exact h
  | exc c ns vs e o => rw [q, W_exc] at h; rw [then_exc, W_exc]; exact h
  | bad => rw [q, W_bad] at h; exact h.elim
theorem W.seq (h : denS fs s env os = .nx env' os1) (k : (denSs fs ss env' os1).W P) : (denSs fs (s :: ss) env os).W P := by
  rw [z_cons, h, then_nx]; exact k
theorem W.asg (h : denE fs e env os = .ok v os1) (hi : i < env.length) (k : (denSs fs ss (env.set i (some v)) os1).W P) : (denSs fs (.asg (.n i) e :: ss) env os).W P :=
  W.seq (by rw [s_asg, h, toSR_ok, asgP_n, if_pos hi, asgO_some]) k
theorem W.unp {ts : List T} (h : denE fs e env os = .ok v os1) (ha : asgP (.t ts) v env = some env') (k : (denSs fs ss env' os1).W P) : (denSs fs (.asg (.t ts) e :: ss) env os).W P :=
  W.seq (by rw [s_asg, h, toSR_ok, ha, asgO_some]) k
theorem W.par {is : List Nat} {es : List E} {vs : List PV} (h : denPs fs es env os = .ok vs os1) (ha : setAll is vs env = some env') (k : (denSs fs ss env' os1).W P) : (denSs fs (.par is es :: ss) env os).W P :=
  W.seq (by rw [s_par, h, toSR_ok, ha, asgO_some]) k
theorem W.exp (h : denE fs e env os = .ok v os1) (k : (denSs fs ss env os1).W P) : (denSs fs (.ex e :: ss) env os).W P :=
  W.seq (by rw [s_ex, h, toSR_ok]) k
theorem W.ret (h : denE fs e env os = .ok v os1) (k : P.rt v os1) : (denSs fs (.ret e :: ss) env os).W P := by
  rw [z_cons, s_ret, h, toSR_ok, then_rt, W_rt]; exact k
theorem W.retN (k : P.rt (.iv .non) os) : (denSs fs (.retN :: ss) env os).W P := by
  rw [z_cons, s_retN, then_rt, W_rt]; exact k
/-- if .. without else, the test false -/
theorem W.iff (h : denE fs c env os = .ok (.iv (.bl false)) os1) (k : (denSs fs ss env os1).W P) : (denSs fs (.ife c aa [] :: ss) env os).W P :=
  W.seq (by rw [s_ife, h, toSR_ok, brS_bl, cond_false, z_nil]) k
theorem W.ift (h : denE fs c env os = .ok (.iv (.bl true)) os1) (k : (denSs fs aa env os1).W (P.thn fun e o => (denSs fs ss e o).W P)) : (denSs fs (.ife c aa bb :: ss) env os).W P :=
  W.cons (by rw [s_ife, h, toSR_ok, brS_bl, cond_true]; exact k)
theorem W.ifb {b : Bool} (h : denE fs c env os = .ok (.iv (.bl b)) os1) (k : b = true → (denSs fs aa env os1).W (P.thn fun e o => (denSs fs ss e o).W P)) (l : b = false → (denSs fs bb env os1).W (P.thn fun e o => (denSs fs ss e o).W P)) : (denSs fs (.ife c aa bb :: ss) env os).W P :=
  W.cons (by
    rw [s_ife, h, toSR_ok, brS_bl]
    cases b with
    | true => exact k rfl
    | false => exact l rfl)
/-- loops: break leaves, continue goes on -/
theorem W.for {t : T} {it : E} {xs : List IV} (h : denI fs it env os = .ok xs os1) (l : (forGo (turnF fs t bb) xs env os1).W { P with nx := fun e o => (denSs fs ss e o).W P, bk := fun _ _ => False, ct := fun _ _ => False }) : (denSs fs (.for t it bb :: ss) env os).W P :=
  W.cons (by rw [s_for, h, toSR_ok]; exact l.mono (fun _ _ z => z) (fun _ _ z => z) (fun _ _ z => z.elim) (fun _ _ z => z.elim) fun _ _ _ _ z => z)
theorem W.whl {c : E} (l : (whlGo (denE fs c) (denSs fs bb) WF env os).W { P with nx := fun e o => (denSs fs ss e o).W P, bk := fun _ _ => False, ct := fun _ _ => False }) : (denSs fs (.whl c bb :: ss) env os).W P :=
  W.cons (by rw [s_whl]; exact l.mono (fun _ _ z => z) (fun _ _ z => z) (fun _ _ z => z.elim) (fun _ _ z => z.elim) fun _ _ _ _ z => z)
theorem turn_n {x : IV} (h : i < env.length) : turnF fs (.n i) bb x env os = denSs fs bb (env.set i (some (.iv x))) os := by
  unfold turnF; rw [asgT_n, if_pos h]
theorem turn_t {x : IV} {ts : List T} (h : asgT (.t ts) x env = some env') : turnF fs (.t ts) bb x env os = denSs fs bb env' os := by
  unfold turnF; rw [h]
end
/-- a for by what holds ahead of each turn -/
theorem for_W {α : Type} {turn : IV → Env → OS → SR} {e : α → IV} {P : Post} (I : List α → Env → OS → Prop) (h : ∀ x xs env os, I (x :: xs) env os → (turn (e x) env os).W { P with nx := I xs, ct := I xs, bk := P.nx }) (k : ∀ env os, I [] env os → P.nx env os) : ∀ xs env os, I xs env os → (forGo turn (xs.map e) env os).W P
  | [], env, os, h0 => by rw [List.map_nil, forGo, W_nx]; exact k env os h0
  | x :: xs, env, os, h0 => by
    have h1 := h x xs env os h0
    simp only [List.map_cons, forGo]
    cases q : turn (e x) env os with
    | nx e' o' => rw [q, W_nx] at h1; exact for_W I h k xs e' o' h1
    | ct e' o' => rw [q, W_ct] at h1; exact for_W I h k xs e' o' h1
    | bk e' o' => rw [q, W_bk] at h1; rw [W_nx]; exact h1
    | rt v o' => rw [q, W_rt] at h1; rw [W_rt]; exact h1
    | exc c ns vs e' o' => rw [q, W_exc] at h1; rw [W_exc]; exact h1
    | bad => rw [q, W_bad] at h1; exact h1.elim
theorem for_Wr {turn : IV → Env → OS → SR} {P : Post} {lo : Int} {n : Nat} {env : Env} {os : OS} (I : List Nat → Env → OS → Prop) (h0 : I (List.range n) env os) (h : ∀ x xs env os, I (x :: xs) env os → (turn (.int (lo + (x : Nat))) env os).W { P with nx := I xs, ct := I xs, bk := P.nx }) (k : ∀ env os, I [] env os → P.nx env os) : (forGo turn (rngL lo n) env os).W P :=
  for_W (e := fun i : Nat => IV.int (lo + i)) I h k (List.range n) env os h0
theorem for_Wm {α : Type} {turn : IV → Env → OS → SR} {P : Post} {e : α → IV} {xs : List α} {env : Env} {os : OS} (I : List α → Env → OS → Prop) (h0 : I xs env os) (h : ∀ x xs env os, I (x :: xs) env os → (turn (e x) env os).W { P with nx := I xs, ct := I xs, bk := P.nx }) (k : ∀ env os, I [] env os → P.nx env os) : (forGo turn (xs.map e) env os).W P :=
  for_W I h k xs env os h0
/-- a while by what holds ahead of each turn, with a measure -/
theorem whl_W {c : Env → OS → Res PV} {b : Env → OS → SR} {P : Post} (I : Nat → Env → OS → Prop) (h : ∀ n env os, I n env os → (∃ os1, c env os = .ok (.iv (.bl false)) os1 ∧ P.nx env os1) ∨ (∃ os1, c env os = .ok (.iv (.bl true)) os1 ∧ (b env os1).W { P with nx := fun e o => ∃ m, m < n ∧ I m e o, ct := fun e o => ∃ m, m < n ∧ I m e o, bk := P.nx })) : ∀ (N n : Nat) (env : Env) (os : OS), n < N → I n env os → (whlGo c b N env os).W P
  | 0, n, env, os, hn, _ => by omega
  | N + 1, n, env, os, hn, h0 => by
    rw [whlGo]
    rcases h n env os h0 with ⟨os1, hc, hp⟩ | ⟨os1, hc, hb⟩
    · rw [hc]; simp only [toSR_ok]; rw [W_nx]; exact hp
    · rw [hc]
      simp only [toSR_ok]
      cases q : b env os1 with
      | nx e' o' => rw [q, W_nx] at hb; obtain ⟨m, hm, hi⟩ := hb; exact whl_W I h N m e' o' (by omega) hi
      | ct e' o' => rw [q, W_ct] at hb; obtain ⟨m, hm, hi⟩ := hb; exact whl_W I h N m e' o' (by omega) hi
      | bk e' o' => rw [q, W_bk] at hb; show SR.W (.nx e' o') P; rw [W_nx]; exact hb
      | rt v o' => rw [q, W_rt] at hb; show SR.W (.rt v o') P; rw [W_rt]; exact hb
      | exc c ns vs e' o' => rw [q, W_exc] at hb; show SR.W (.exc c ns vs e' o') P; rw [W_exc]; exact hb
      | bad => rw [q, W_bad] at hb; exact hb.elim
/-- a def by its body's end -/
theorem run_W {fs : FS} {d : D} {as : List PV} {bs : OS} {R : IV → OS → Prop} (h : (denSs fs d.body (as.map some ++ List.replicate (d.N.length - as.length) none) bs).W { rt := fun v o => ∃ x, v = .iv x ∧ R x (o.take bs.length) }) : ∃ x os', (fnD fs d).run as bs = .ok (.iv x) os' ∧ R x os' := by
  rw [fnD_run]
  cases q : denSs fs d.body (as.map some ++ List.replicate (d.N.length - as.length) none) bs with
  | rt v o =>
    rw [q, W_rt] at h
    obtain ⟨x, rfl, hr⟩ := h
    exact ⟨x, _, rfl, hr⟩
  | nx e o => rw [q, W_nx] at h; exact h.elim
  | bk e o => rw [q, W_bk] at h; exact h.elim
  | ct e o => rw [q, W_ct] at h; exact h.elim
  | exc c ns vs e o => rw [q, W_exc] at h; exact h.elim
  | bad => rw [q, W_bad] at h; exact h.elim
end DP

set_option Elab.async false
set_option linter.all false
set_option maxRecDepth 100000
set_option maxHeartbeats 1000000
/-! Sp19: distances (k85). -/
namespace DP
open PySem L2
open En (iv da)
variable {fs : FS}
theorem tuple_sq {sq : List IV → IV} (hq : sq = .tup ∨ sq = .lst) {xs : List IV} {os : OS} : biF .tuple [.iv (sq xs)] os = .ok (.iv (.tup xs)) os := by
  rcases hq with rfl | rfl <;> rfl
abbrev pBehind (F0 : Fn) : Prop := ∀ (F : Fd) (xs ys : List Step) (sq sr : List IV → IV), (sq = .tup ∨ sq = .lst) → (sr = .tup ∨ sr = .lst) → xs.length + ys.length < 900000 → F0.run [.iv F.iv, .iv (sq (xs.map iv)), .iv (sr (ys.map iv))] [] = .ok (.iv (.lst ((pileL F (backL xs ++ ys)).map iv))) []
theorem run_behind (h14 : Sp0 fs 14 [false, false] pPiled) (h17 : Sp0 fs 17 [false] pBack) : pBehind (fnD fs d_behind_in) := by
  intro F xs ys sq sr hq hr hl
  have lb : (backL xs).length = xs.length := backL_len
  have c := call_back (os := []) h17 (xs := xs) (by omega) hq
  have t := tuple_sq hr (xs := ys.map iv) (os := [])
  have a := bin_add_tup (os := []) (xs := (backL xs).map iv) (ys := ys.map iv) (by simp; omega)
  rw [← List.map_append] at a
  have p := call_piled (os := []) h14 (F := F) (xs := backL xs ++ ys) (by simp; omega) (.inl rfl)
  simp only [fnD_run, d_behind_in, List.map_cons, List.map_nil, z_cons, s_ret, e_call, ps_cons, ps_nil, e_v, List.cons_append, getV_succ, getV_zero, bind_ok, e_bin, e_bi, c, t, a, p, toSR_ok, then_rt, finish_iv]
  rfl
theorem call_behind (h : Sp0 fs 38 [false, false, false] pBehind) {F : Fd} {xs ys : List Step} {sq sr : List IV → IV} (hq : sq = .tup ∨ sq = .lst) (hr : sr = .tup ∨ sr = .lst) (hl : xs.length + ys.length < 900000) {os : OS} : callN fs false 38 [.iv F.iv, .iv (sq (xs.map iv)), .iv (sr (ys.map iv))] os = .ok (.iv (.lst ((pileL F (backL xs ++ ys)).map iv))) os := by
  rw [Sp0.c3 h fun F0 q => q F xs ys sq sr hq hr hl, adopt_fiv]
abbrev pDistIn (F0 : Fn) : Prop := ∀ (F : Fd) (xs ys : List Step) (sq sr : List IV → IV), (sq = .tup ∨ sq = .lst) → (sr = .tup ∨ sr = .lst) → xs.length + ys.length < 900000 → F0.run [.iv F.iv, .iv (sq (xs.map iv)), .iv (sr (ys.map iv))] [] = .ok (.iv (.int (gl F (backL xs ++ ys)))) []
theorem run_distin (h38 : Sp0 fs 38 [false, false, false] pBehind) (h18 : Sp0 fs 18 [false] pLen) : pDistIn (fnD fs d_distance_in) := by
  intro F xs ys sq sr hq hr hl
  have c := call_behind (os := []) h38 (F := F) (xs := xs) (ys := ys) hq hr hl
  have lp := pileL_len (F := F) (xs := backL xs ++ ys)
  have lb : (backL xs).length = xs.length := backL_len
  have l := call_len (os := []) h18 (xs := pileL F (backL xs ++ ys)) (by simp at lp; omega) (.inr rfl)
  simp only [fnD_run, d_distance_in, List.map_cons, List.map_nil, z_cons, s_ret, e_call, ps_cons, ps_nil, e_v, List.cons_append, getV_succ, getV_zero, bind_ok, c, l, toSR_ok, then_rt, finish_iv]
  rfl
theorem call_distin (h : Sp0 fs 39 [false, false, false] pDistIn) {F : Fd} {xs ys : List Step} {sq sr : List IV → IV} (hq : sq = .tup ∨ sq = .lst) (hr : sr = .tup ∨ sr = .lst) (hl : xs.length + ys.length < 900000) {os : OS} : callN fs false 39 [.iv F.iv, .iv (sq (xs.map iv)), .iv (sr (ys.map iv))] os = .ok (.iv (.int (gl F (backL xs ++ ys)))) os := by
  rw [Sp0.c3 h fun F0 q => q F xs ys sq sr hq hr hl, adopt_fiv]
theorem call_scr (h : Sp0 fs 7 [false, false] pScript) {F : Fd} {xs : List Step} (hx : okS F xs) {os : OS} : callN fs false 7 [.iv F.iv, .iv (.tup (xs.map iv))] os = .ok (.iv (.tup (xs.map iv))) os := by
  rw [Sp0.c2 h fun F0 q => q F xs hx, adopt_fiv]
abbrev pDist (F0 : Fn) : Prop := ∀ (F : Fd) (xs ys : List Step), VF F → okS F xs → okS F ys → F0.run [.iv F.iv, .iv (.tup (xs.map iv)), .iv (.tup (ys.map iv))] [] = .ok (.iv (.int (gl F (backL (pileL F xs) ++ pileL F ys)))) []
theorem run_dist (h14 : Sp0 fs 14 [false, false] pPiled) (h16 : Sp0 fs 16 [false, false] pNeed) (h7 : Sp0 fs 7 [false, false] pScript) (h39 : Sp0 fs 39 [false, false, false] pDistIn) : pDist (fnD fs d_distance) := by
  intro F xs ys v hx hy
  have l1 := hx.1
  have l2 := hy.1
  have p1 := pileL_len (F := F) (xs := xs)
  have p2 := pileL_len (F := F) (xs := ys)
  have c1 := call_need (os := []) h16 v hx
  have c2 := call_piled (os := []) h14 (F := F) (xs := xs) (by omega) (.inl rfl)
  have c3 := call_scr (os := []) h7 hy
  have c4 := call_piled (os := []) h14 (F := F) (xs := ys) (by omega) (.inl rfl)
  have c5 := call_distin (os := []) h39 (F := F) (xs := pileL F xs) (ys := pileL F ys) (.inr rfl) (.inr rfl) (by omega)
  simp [fnD_run, d_distance, c1, c2, c3, c4, c5]
abbrev pThree (F0 : Fn) : Prop := ∀ (F : Fd) (xs ys zs : List Step), VF F → okS F xs → okS F ys → okS F zs → F0.run [.iv F.iv, .iv (.tup (xs.map iv)), .iv (.tup (ys.map iv)), .iv (.tup (zs.map iv))] [] = .ok (.iv (.tup [.tup (xs.map iv), .tup (ys.map iv), .tup (zs.map iv)])) []
theorem run_three (h16 : Sp0 fs 16 [false, false] pNeed) (h7 : Sp0 fs 7 [false, false] pScript) : pThree (fnD fs d_three_scripts) := by
  intro F xs ys zs v hx hy hz
  have c1 := call_need (os := []) h16 v hx
  have c2 := call_scr (os := []) h7 hy
  have c3 := call_scr (os := []) h7 hz
  have z3 : szOk 3 = true := rfl
  simp [fnD_run, d_three_scripts, c1, c2, c3, z3]
abbrev pBetween (F0 : Fn) : Prop := ∀ (F : Fd) (xs ys zs : List Step), VF F → okS F xs → okS F ys → okS F zs → F0.run [.iv F.iv, .iv (.tup (xs.map iv)), .iv (.tup (ys.map iv)), .iv (.tup (zs.map iv))] [] = .ok (.iv (.bl (decide (gl F (backL (pileL F xs) ++ pileL F ys) + gl F (backL (pileL F ys) ++ pileL F zs) = gl F (backL (pileL F xs) ++ pileL F zs))))) []
theorem run_between (h40 : Sp0 fs 40 [false, false, false, false] pThree) (h14 : Sp0 fs 14 [false, false] pPiled) (h39 : Sp0 fs 39 [false, false, false] pDistIn) : pBetween (fnD fs d_is_between) := by
  intro F xs ys zs v hx hy hz
  have l1 := hx.1
  have l2 := hy.1
  have l3 := hz.1
  have p1 := pileL_len (F := F) (xs := xs)
  have p2 := pileL_len (F := F) (xs := ys)
  have p3 := pileL_len (F := F) (xs := zs)
  have c0 : callN fs false 40 [.iv F.iv, .iv (.tup (xs.map iv)), .iv (.tup (ys.map iv)), .iv (.tup (zs.map iv))] [] = .ok (.iv (.tup [.tup (xs.map iv), .tup (ys.map iv), .tup (zs.map iv)])) [] := by
    rw [Sp0.c4 h40 fun F0 q => q F xs ys zs v hx hy hz, adopt_fiv]
  have c1 := call_piled (os := []) h14 (F := F) (xs := xs) (by omega) (.inl rfl)
  have c2 := call_piled (os := []) h14 (F := F) (xs := ys) (by omega) (.inl rfl)
  have c3 := call_piled (os := []) h14 (F := F) (xs := zs) (by omega) (.inl rfl)
  have d1 := call_distin (os := []) h39 (F := F) (xs := pileL F xs) (ys := pileL F zs) (.inr rfl) (.inr rfl) (by omega)
  have d2 := call_distin (os := []) h39 (F := F) (xs := pileL F xs) (ys := pileL F ys) (.inr rfl) (.inr rfl) (by omega)
  have d3 := call_distin (os := []) h39 (F := F) (xs := pileL F ys) (ys := pileL F zs) (.inr rfl) (.inr rfl) (by omega)
  have u : ∀ a b c : IV, ∀ env : Env, env.length = 9 → asgP (.t [.n 4, .n 5, .n 6]) (.iv (.lst [a, b, c])) env = some (((env.set 4 (some (.iv a))).set 5 (some (.iv b))).set 6 (some (.iv c))) := by
    intro a b c env he
    simp [asgP, asgT, asgTs, he]
  have cg : compGo (compStep [7] (.n 7) (wipeE [some (.iv F.iv), some (.iv (.tup (xs.map iv))), some (.iv (.tup (ys.map iv))), some (.iv (.tup (zs.map iv))), none, none, none, none, none] [7]) (denTs fs []) (denE fs (.call false 14 [.v 0, .v 7]))) [.tup (xs.map iv), .tup (ys.map iv), .tup (zs.map iv)] [] [] = .ok [.lst ((pileL F xs).map iv), .lst ((pileL F ys).map iv), .lst ((pileL F zs).map iv)] [] := by
    simp [compGo, compStep, wipeE, c1, c2, c3, szOk]
  simp [fnD_run, d_is_between, c0, itIV, cg, u, d1, d2, d3]
abbrev pAlike (F0 : Fn) : Prop := ∀ (F : Fd) (xs ys : List Step), VF F → okS F xs → okS F ys → F0.run [.iv F.iv, .iv (.tup (xs.map iv)), .iv (.tup (ys.map iv))] [] = .ok (.iv (.bl (decide (leastL F xs = leastL F ys)))) []
theorem run_alike (h16 : Sp0 fs 16 [false, false] pNeed) (h15 : Sp0 fs 15 [false, false] pLeast) (h7 : Sp0 fs 7 [false, false] pScript) : pAlike (fnD fs d_are_alike) := by
  intro F xs ys v hx hy
  have l1 := hx.1
  have l2 := hy.1
  have c1 := call_need (os := []) h16 v hx
  have c2 := call_least (os := []) h15 v (xs := xs) (by omega) hx.inF (.inl rfl)
  have c3 := call_scr (os := []) h7 hy
  have c4 := call_least (os := []) h15 v (xs := ys) (by omega) hy.inF (.inl rfl)
  have e := cmp_eq_tup (α := Step) (os := []) (xs := leastL F xs) (ys := leastL F ys) (by decide)
  simp [fnD_run, d_are_alike, c1, c2, c3, c4, e]
abbrev pFar (F0 : Fn) : Prop := ∀ (F : Fd) (xs ys : List Step), VF F → xs.length + ys.length < 900000 → F0.run [.iv F.iv, .iv (.tup (xs.map iv)), .iv (.tup (ys.map iv))] [] = .ok (.iv (.int (lenL (lpileL F (backL xs ++ ys).length (backL xs ++ ys))))) []
theorem run_far (h45 : Sp0 fs 45 [false, false] pLen2) (h46 : Sp0 fs 46 [false] pLBack) : pFar (fnD fs d_law_far) := by
  intro F xs ys v hl
  have lb : (backL xs).length = xs.length := backL_len
  have c1 : callN fs false 46 [.iv (.tup (xs.map iv))] [] = .ok (.iv (.tup ((backL xs).map iv))) [] := by
    rw [Sp0.c1 h46 fun F0 q => q xs .tup (.inl rfl) (by omega), adopt_fiv]
  have a := bin_add_tup (os := []) (xs := (backL xs).map iv) (ys := ys.map iv) (by simp; omega)
  rw [← List.map_append] at a
  have t := tuple_sq (.inl rfl) (xs := ys.map iv) (os := [])
  have c2 : callN fs false 45 [.iv F.iv, .iv (.tup ((backL xs ++ ys).map iv))] [] = .ok (.iv (.int (lenL (lpileL F (backL xs ++ ys).length (backL xs ++ ys))))) [] := by
    rw [Sp0.c2 h45 fun F0 q => q F _ .tup v (.inl rfl) (by simp; omega), adopt_fiv]
  simp only [fnD_run, d_law_far, List.map_cons, List.map_nil, z_cons, s_ret, e_call, ps_cons, ps_nil, e_v, List.cons_append, getV_succ, getV_zero, bind_ok, e_bin, e_bi, c1, t, a, c2, toSR_ok, then_rt, finish_iv]
  rfl
theorem run_like2 : pLike (fnD fs d_law_like_v2) := run_like
end DP

set_option Elab.async false
set_option linter.all false
set_option maxRecDepth 100000
set_option maxHeartbeats 1000000
/-! Sp20: drawn fields and scripts (third part's laws). -/
namespace DP
open PySem L2
open En (iv da)
variable {fs : FS}
def sixD : List Nm := [nmS "a", nmS "b", nmS "c", nmS "d", nmS "e", nmS "f"]
theorem good_sixD : ∀ k, k ≤ 6 → 0 < k → goodNs (sixD.take k) = true := by decide +kernel
/-- a comprehension that keeps items by a draw -/
theorem comp_keep (h : Sp0 fs 9000 [true, false] pDraw) {α : Type} [En α] {env : Env} {i j : Nat} {lim : Int} (hl : 0 < lim) (hl2 : lim < 1073741824) (hj : i < env.length) (hr : env[j]? = some (some (.ref 0))) (hij : j ≠ i) :
    ∀ (xs : List α) (acc : List IV) (o : OB) (m : Nat), Dw m o → m + xs.length < 1000000000000000000 → acc.length + xs.length ≤ 1000000 → ∃ (ys : List α) (o' : OB), ys.Sublist xs ∧ Dw (m + xs.length) o' ∧
      compGo (compStep [i] (.n i) (wipeE env [i]) (denTs fs [.cmp .Eq (.call false 9000 [.v j, .c (.int lim)]) (.c (.int 0))]) (denE fs (.v i))) (xs.map iv) acc [o] = .ok (acc ++ ys.map iv) [o']
  | [], acc, o, m, w, _, _ => ⟨[], o, .slnil, w, by simp [compGo]⟩
  | x :: xs, acc, o, m, w, hm, ha => by
    simp only [List.length_cons] at hm ha
    obtain ⟨d, o1, d0, d1, w1, e1⟩ := draw h (os := [o]) (k := 0) (limit := lim) rfl w (by omega) hl hl2
    simp only [List.set_cons_zero] at e1
    have ce : wipeE env [i] = env.set i none := rfl
    have step : compStep [i] (.n i) (wipeE env [i]) (denTs fs [.cmp .Eq (.call false 9000 [.v j, .c (.int lim)]) (.c (.int 0))]) (denE fs (.v i)) (iv x) [o] = .ok (if d = 0 then some (iv x) else none) [o1] := by
      have g1 : (env.set i (some (.iv (iv x))))[j]? = some (some (.ref 0)) := by rw [List.getElem?_set_ne (Ne.symm hij), hr]
      have g2 : (env.set i (some (.iv (iv x))))[i]? = some (some (.iv (iv x))) := by simp [hj]
      by_cases q : d = 0
      · simp [compStep, ce, hj, getV_abs, g1, g2, e1, q]
      · simp [compStep, ce, hj, getV_abs, g1, g2, e1, q]
    rw [List.map_cons, compGo, step]
    by_cases q : d = 0
    · obtain ⟨ys, o', s, w', e'⟩ := comp_keep h hl hl2 hj hr hij xs (acc ++ [iv x]) o1 (m + 1) w1 (by omega) (by simp; omega)
      refine ⟨x :: ys, o', s.cons_cons x, w'.mono (by simp; omega), ?_⟩
      have sz : szOk (acc.length + 1) = true := by simp [szOk]; omega
      simp [q, sz, e']
    · obtain ⟨ys, o', s, w', e'⟩ := comp_keep h hl hl2 hj hr hij xs acc o1 (m + 1) w1 (by omega) (by omega)
      exact ⟨ys, o', s.cons x, w'.mono (by simp; omega), by simp [q, e']⟩
abbrev pLField2 (F0 : Fn) : Prop := ∀ (most : Int) (n : Nat) (o : OB), 1 ≤ most → most ≤ 6 → Dw n o → n < 900000000000000000 → ∃ F o', VF F ∧ (F.names.length : Int) ≤ most ∧ (∀ x ∈ F.names, x ∈ sixD) ∧ Dw (n + 100) o' ∧ F0.run [.ref 0, .iv (.int most)] [o] = .ok (.iv F.iv) [o']
theorem prs_len : ∀ ns : List Nm, (prs ns).length ≤ ns.length * ns.length
  | [] => Nat.le_refl _
  | a :: ns => by
    have := prs_len ns
    simp only [prs, List.length_append, List.length_map, List.length_cons]
    rw [Nat.add_mul, Nat.mul_add]
    omega
theorem run_lfield2 (h : Sp0 fs 9000 [true, false] pDraw) : pLField2 (fnD fs d_law_field_v2) := by
  intro most n o h1 h6 hw hn
  obtain ⟨v1, o1, a1, b1, w1, e1⟩ := draw h (os := [o]) (k := 0) rfl hw (by omega) (show 0 < most by omega) (by omega)
  obtain ⟨j, rfl⟩ : ∃ j : Nat, v1 = (j : Int) := ⟨v1.toNat, by omega⟩
  have hj6 : 1 + j ≤ 6 := by omega
  generalize hns : sixD.take (1 + j) = ns at *
  have hg : goodNs ns = true := by rw [← hns]; exact good_sixD _ hj6 (by omega)
  have hlen : ns.length = 1 + j := by rw [← hns, List.length_take]; show min (1 + j) 6 = _; omega
  have cut : cutI [IV.str "a", IV.str "b", IV.str "c", IV.str "d", IV.str "e", IV.str "f"] none (some (1 + (j : Int))) = ns.map iv := by
    have : [IV.str "a", IV.str "b", IV.str "c", IV.str "d", IV.str "e", IV.str "f"] = sixD.map iv := rfl
    rw [this, cutI_map, show (1 + (j : Int)) = ((1 + j : Nat) : Int) by omega, cut_hi, hns]
  have hpl := prs_len ns
  have hpl' : (prs ns).length ≤ 36 := by
    refine Nat.le_trans hpl ?_
    calc ns.length * ns.length ≤ 6 * 6 := Nat.mul_le_mul (by omega) (by omega)
      _ = 36 := rfl
  simp only [List.set_cons_zero] at e1
  have key : ∃ x os', (fnD fs d_law_field_v2).run [.ref 0, .iv (.int most)] [o] = .ok (.iv x) os' ∧ ∃ (ps : List (Nm × Nm)) (o' : OB), x = Fd.iv ⟨ns, ps⟩ ∧ ps.Sublist (prs ns) ∧ Dw (n + 100) o' ∧ os' = [o'] := by
    refine run_W ?_
    show (denSs fs [_, _, _] [some (.ref 0), some (.iv (.int most)), none, none, none, none, none] [o]).W _
    refine W.par (vs := [.iv (.tup (ns.map iv)), .iv (.lst [])]) (os1 := [o1]) (env' := [some (.ref 0), some (.iv (.int most)), some (.iv (.tup (ns.map iv))), some (.iv (.lst [])), none, none, none]) ?_ rfl ?_
    · simp [szOk, e1, rd, slcIV, cut]
    refine W.for (xs := rngL 0 ns.length) (os1 := [o1]) ?_ ?_
    · rw [i_rng1, e_bi, ps_cons, e_v, getV_succ, getV_succ, getV_zero, bind_ok, ps_nil, bind_ok, bind_ok, len_tup, bind_ok, List.length_map, rng1_int (rngOk_of (by omega) (by omega))]
      rfl
    refine for_Wr (fun rest env os => ∃ (k : Nat) (ps : List (Nm × Nm)) (p : Option PV), rest = (List.range' k (ns.length - k)) ∧ k ≤ ns.length ∧ ps ++ prs (ns.drop k) = prs ns ∧ env = [some (.ref 0), some (.iv (.int most)), some (.iv (.tup (ns.map iv))), some (.iv (.lst (ps.map iv))), p, none, none] ∧ os = [o1]) ⟨0, [], none, by simp [List.range_eq_range'], by omega, by simp, rfl, rfl⟩ ?_ ?_
    · rintro x xs env os ⟨k, ps, p, hr, hk, hp, rfl, rfl⟩
      have hk' : k < ns.length := by
        rcases Nat.lt_or_ge k ns.length with q | q
        · exact q
        · rw [Nat.sub_eq_zero_of_le q] at hr; cases hr
      rw [show ns.length - k = (ns.length - (k + 1)) + 1 by omega, List.range'_succ] at hr
      obtain ⟨q1, q2⟩ := List.cons.inj hr
      obtain rfl : k = x := q1.symm
      subst q2
      have c2 : cutI (ns.map iv) (some ((k : Int) + 1)) none = (ns.drop (k + 1)).map iv := by
        rw [cutI_map, show ((k : Int) + 1) = ((k + 1 : Nat) : Int) by omega, cut_lo]
      have cc : compGo (compStep [5] (.n 5) (wipeE [some (.ref 0), some (.iv (.int most)), some (.iv (.tup (ns.map iv))), some (.iv (.lst (ps.map iv))), some (.iv (.int k)), none, none] [5]) (denTs fs []) (denE fs (.tup [.idx (.v 2) (.v 4), .v 5]))) ((ns.drop (k + 1)).map iv) [] [o1] = .ok (((ns.drop (k + 1)).map fun b => (nth ns k, b)).map iv) [o1] := by
        rw [compGo_m (g := fun b : Nm => iv ((nth ns k, b) : Nm × Nm)) (ns.drop (k + 1)) (fun b _ => by
          simp [compStep, wipeE, atI_map hk', szOk, getD_of hk', iv_pair]) (by simp; omega)]
        simp [List.map_map, Function.comp_def]
      rw [drop_cons_of hk', prs, ← List.append_assoc] at hp
      have hpl2 : ps.length + (ns.drop (k + 1)).length ≤ 36 := by
        have := congrArg List.length hp
        simp only [List.length_append, List.length_map] at this
        omega
      have ad := bin_add_lst (os := [o1]) (xs := ps.map iv) (ys := ((ns.drop (k + 1)).map fun b => (nth ns k, b)).map iv) (by simp only [List.length_map]; omega)
      rw [← List.map_append] at ad
      rw [turn_n (by simp), show (0 : Int) + (k : Int) = (k : Int) by omega]
      refine W.asg (v := .iv (.lst ((ps ++ (ns.drop (k + 1)).map fun b => (nth ns k, b)).map iv))) (os1 := [o1]) ?_ (by simp) (W.nil ⟨k + 1, _, _, rfl, hk', hp, rfl, rfl⟩)
      simp only [e_lc, i_it, e_sLo, e_bin, e_v, e_c, List.set_cons_succ, List.set_cons_zero, getV_succ, getV_zero, bind_ok, bin_add_int, asInt_int, rd, Option.bind_some, slcIV, c2, Option.map_some, lift_some, asIv_iv, itIV, cc, mk_false, ad]
    · rintro env os ⟨k, ps, p, hr, hk, hp, rfl, rfl⟩
      have : k = ns.length := by
        rcases Nat.lt_or_ge k ns.length with q | q
        · rw [show ns.length - k = (ns.length - (k + 1)) + 1 by omega, List.range'_succ] at hr; cases hr
        · omega
      subst this
      rw [List.drop_length, prs, List.append_nil] at hp
      subst hp
      obtain ⟨ys, o', hs, w', ec⟩ := comp_keep h (α := Nm × Nm) (env := [some (.ref 0), some (.iv (.int most)), some (.iv (.tup (ns.map iv))), some (.iv (.lst ((prs ns).map iv))), p, none, none]) (i := 6) (j := 0) (lim := 2) (by omega) (by omega) (by simp) rfl (by decide) (prs ns) [] o1 (n + 1) w1 (by omega) (by simp; omega)
      show (denSs fs [.ret _] _ _).W _
      refine W.ret (v := .iv (Fd.iv ⟨ns, ys⟩)) (os1 := [o']) ?_ ⟨_, rfl, ys, o', rfl, hs, w'.mono (by omega), rfl⟩
      have z2 : szOk 2 = true := rfl
      simp only [e_tup, es_cons, es_nil, e_v, getV_succ, getV_zero, bind_ok, asIv_iv, e_bi, ps_cons, ps_nil, e_lc, i_it, itIV, lift_some, ec, mk_false, List.nil_append, tuple_lst, List.length_cons, List.length_nil, z2, if_true, Fd.iv]
  obtain ⟨x, os', er, ps, o', rfl, hs, w', rfl⟩ := key
  exact ⟨⟨ns, ps⟩, o', vf_of hg hs, by show (ns.length : Int) ≤ most; omega, fun x hx => by rw [← hns] at hx; exact List.mem_of_mem_take hx, w', er⟩
/-! ### drawn steps -/
def smT : List Int := [1, -1, 1, -1, 2, -2, 3, -1]
def grT : List Int := [7, -12, 10 ^ 29, -(10 ^ 29), 1 - 10 ^ 30, 10 ^ 30]
theorem smT_ok : ∀ t ∈ smT, okT t = true := by decide +kernel
theorem grT_ok : ∀ t ∈ grT, okT t = true := by decide +kernel
abbrev pLSteps (F0 : Fn) : Prop := ∀ (F : Fd) (most : Int) (great : Bool) (n : Nat) (o : OB), VF F → 0 ≤ most → most ≤ 60 → Dw n o → n < 800000000000000000 → ∃ xs o', okS F xs ∧ (xs.length : Int) ≤ most ∧ (great = false → ∀ s ∈ xs, s.2 ∈ smT) ∧ Dw (n + 300) o' ∧ F0.run [.ref 0, .iv F.iv, .iv (.int most), .iv (.bl great)] [o] = .ok (.iv (.tup (xs.map iv))) [o']
abbrev stB : List S := [.asg (.n 6) (.idx (.lst false [.c (.int 1), .neg (.c (.int 1)), .c (.int 1), .neg (.c (.int 1)), .c (.int 2), .neg (.c (.int 2)), .c (.int 3), .neg (.c (.int 1))]) (.call false 9000 [.v 0, .c (.int 8)])),
    .ife (.and (.v 3) (.cmp .Eq (.call false 9000 [.v 0, .c (.int 4)]) (.c (.int 0)))) [.asg (.n 6) (.idx (.lst false [.c (.int 7), .neg (.c (.int 12)), .bin .Pow (.c (.int 10)) (.c (.int 29)), .neg (.bin .Pow (.c (.int 10)) (.c (.int 29))), .bin .Sub (.c (.int 1)) (.bin .Pow (.c (.int 10)) (.c (.int 30))), .bin .Pow (.c (.int 10)) (.c (.int 30))]) (.call false 9000 [.v 0, .c (.int 6)]))] [],
    .ex (.app (.v 4) (.tup [.idx (.idx (.v 1) (.c (.int 0))) (.call false 9000 [.v 0, .bi .len [.idx (.v 1) (.c (.int 0))]]), .v 6]))]
theorem steps_turn (h : Sp0 fs 9000 [true, false] pDraw) {F : Fd} (v : VF F) {most : Int} {great : Bool} {xs : List Step} {o : OB} {m : Nat} {lo : Int} {p q : Option PV} (hl : xs.length ≤ 1000) (w : Dw m o) (hm : m < 900000000000000000) :
    (denSs fs stB [some (.ref 0), some (.iv F.iv), some (.iv (.int most)), some (.iv (.bl great)), some (.ref 1), some (.iv (.int lo)), q] [o, .lst (xs.map iv)]).W { nx := fun env os => ∃ (s : Step) (o' : OB) (q : Option PV), s.1 ∈ F.names ∧ okT s.2 = true ∧ (great = false → s.2 ∈ smT) ∧ Dw (m + 4) o' ∧ env = [some (.ref 0), some (.iv F.iv), some (.iv (.int most)), some (.iv (.bl great)), some (.ref 1), some (.iv (.int lo)), q] ∧ os = [o', .lst ((xs ++ [s]).map iv)] } := by
  have hpos : 0 < F.names.length := List.length_pos_iff.mpr v.ne
  have hle := v.le
  obtain ⟨v1, o1, a1, b1, w1, e1⟩ := draw h (os := [o, .lst (xs.map iv)]) (k := 0) (limit := 8) rfl w (by omega) (by omega) (by omega)
  simp only [List.set_cons_zero] at e1
  obtain ⟨i, rfl⟩ : ∃ i : Nat, v1 = (i : Int) := ⟨v1.toNat, by omega⟩
  have hi : i < smT.length := by show i < 8; omega
  have t1 := atI_map hi
  have l1 : ∀ env os, denE fs (.lst false [.c (.int 1), .neg (.c (.int 1)), .c (.int 1), .neg (.c (.int 1)), .c (.int 2), .neg (.c (.int 2)), .c (.int 3), .neg (.c (.int 1))]) env os = .ok (.iv (.lst (smT.map iv))) os := fun env os => rfl
  have l2 : ∀ env os, denE fs (.lst false [.c (.int 7), .neg (.c (.int 12)), .bin .Pow (.c (.int 10)) (.c (.int 29)), .neg (.bin .Pow (.c (.int 10)) (.c (.int 29))), .bin .Sub (.c (.int 1)) (.bin .Pow (.c (.int 10)) (.c (.int 30))), .bin .Pow (.c (.int 10)) (.c (.int 30))]) env os = .ok (.iv (.lst (grT.map iv))) os := fun env os => rfl
  have hs1 : smT[i] ∈ smT := List.getElem_mem hi
  have ho1 := smT_ok _ hs1
  generalize hT1 : smT[i] = y1 at *
  generalize hS1 : smT = sT at *
  -- the end
  have fin : ∀ (y : Int) (o2 : OB), okT y = true → (great = false → y ∈ sT) → Dw (m + 3) o2 → (denSs fs [.ex (.app (.v 4) (.tup [.idx (.idx (.v 1) (.c (.int 0))) (.call false 9000 [.v 0, .bi .len [.idx (.v 1) (.c (.int 0))]]), .v 6]))] [some (.ref 0), some (.iv F.iv), some (.iv (.int most)), some (.iv (.bl great)), some (.ref 1), some (.iv (.int lo)), some (.iv (.int y))] [o2, .lst (xs.map iv)]).W { nx := fun env os => ∃ (s : Step) (o' : OB) (q : Option PV), s.1 ∈ F.names ∧ okT s.2 = true ∧ (great = false → s.2 ∈ sT) ∧ Dw (m + 4) o' ∧ env = [some (.ref 0), some (.iv F.iv), some (.iv (.int most)), some (.iv (.bl great)), some (.ref 1), some (.iv (.int lo)), q] ∧ os = [o', .lst ((xs ++ [s]).map iv)] } := by
    intro y o2 hy hg w2
    obtain ⟨v3, o3, a3, b3, w3, e3⟩ := draw h (os := [o2, .lst (xs.map iv)]) (k := 0) (limit := (F.names.length : Int)) rfl w2 (by omega) (by omega) (by omega)
    simp only [List.set_cons_zero] at e3
    obtain ⟨j, rfl⟩ : ∃ j : Nat, v3 = (j : Int) := ⟨v3.toNat, by omega⟩
    have hj : j < F.names.length := by omega
    have t3 := atI_map hj
    have sz : szOk (xs.length + 1) = true := by simp [szOk]; omega
    refine W.exp (v := .iv .non) (os1 := [o3, .lst ((xs ++ [(F.names[j], y)]).map iv)]) ?_ (W.nil ⟨(F.names[j], y), o3, _, List.getElem_mem hj, hy, hg, w3.mono (by omega), rfl, rfl⟩)
    have z2 : szOk 2 = true := rfl
    simp [Fd.iv, e3, t3, isL, appF, sz, z2]
    rfl
  refine W.asg (v := .iv (.int y1)) (os1 := [o1, .lst (xs.map iv)]) ?_ (by simp) ?_
  · rw [e_idx, l1, bind_ok]
    simp [e1, t1, iv_int]
  simp only [List.set_cons_succ, List.set_cons_zero]
  cases great with
  | false =>
    refine W.iff (os1 := [o1, .lst (xs.map iv)]) (by simp) (fin y1 o1 ho1 (fun _ => hs1) (w1.mono (by omega)))
  | true =>
    obtain ⟨v2, o2, a2, b2, w2, e2⟩ := draw h (os := [o1, .lst (xs.map iv)]) (k := 0) (limit := 4) rfl w1 (by omega) (by omega) (by omega)
    simp only [List.set_cons_zero] at e2
    refine W.ifb (b := decide (v2 = 0)) (os1 := [o2, .lst (xs.map iv)]) (by simp [e2]) (fun _ => ?_) (fun _ => ?_)
    · obtain ⟨v4, o4, a4, b4, w4, e4⟩ := draw h (os := [o2, .lst (xs.map iv)]) (k := 0) (limit := 6) rfl w2 (by omega) (by omega) (by omega)
      simp only [List.set_cons_zero] at e4
      obtain ⟨k, rfl⟩ : ∃ k : Nat, v4 = (k : Int) := ⟨v4.toNat, by omega⟩
      have hk : k < grT.length := by show k < 6; omega
      have t4 := atI_map hk
      have ho4 := grT_ok _ (List.getElem_mem hk)
      generalize hT4 : grT[k] = y4 at *
      generalize grT = gT at *
      refine W.asg (v := .iv (.int y4)) (os1 := [o4, .lst (xs.map iv)]) ?_ (by simp) (W.nil (fin y4 o4 ho4 (fun z => by cases z) (w4.mono (by omega))))
      rw [e_idx, l2, bind_ok]
      simp [e4, t4, iv_int]
    · exact W.nil (fin y1 o2 ho1 (fun z => by cases z) (w2.mono (by omega)))
theorem run_lsteps (h : Sp0 fs 9000 [true, false] pDraw) : pLSteps (fnD fs d_law_steps) := by
  intro F most great n o v h0 h60 hw hn
  obtain ⟨v2, o2, a2, b2, w2, e2⟩ := draw h (os := [o, .lst []]) (k := 0) (limit := most + 1) rfl hw (by omega) (by omega) (by omega)
  simp only [List.set_cons_zero] at e2
  have key : ∃ x os', (fnD fs d_law_steps).run [.ref 0, .iv F.iv, .iv (.int most), .iv (.bl great)] [o] = .ok (.iv x) os' ∧ ∃ (xs : List Step) (o' : OB), x = .tup (xs.map iv) ∧ (xs.length : Int) ≤ most ∧ (∀ s ∈ xs, s.1 ∈ F.names ∧ okT s.2 = true ∧ (great = false → s.2 ∈ smT)) ∧ Dw (n + 300) o' ∧ os' = [o'] := by
    refine run_W ?_
    refine W.asg (v := .ref 1) (os1 := [o, .lst []]) (by simp [szOk]) (by simp [d_law_steps]) ?_
    refine W.for (xs := rngL 0 v2.toNat) (os1 := [o2, .lst []]) ?_ ?_
    · simp [d_law_steps, e2, rng1_int (rngOk_of (show -1000 ≤ v2 by omega) (show v2 ≤ 1000000 by omega))]
    refine for_Wr (fun rest env os => ∃ (xs : List Step) (o' : OB) (p q : Option PV), xs.length + rest.length = v2.toNat ∧ (∀ s ∈ xs, s.1 ∈ F.names ∧ okT s.2 = true ∧ (great = false → s.2 ∈ smT)) ∧ Dw (n + 1 + 4 * xs.length) o' ∧ env = [some (.ref 0), some (.iv F.iv), some (.iv (.int most)), some (.iv (.bl great)), some (.ref 1), p, q] ∧ os = [o', .lst (xs.map iv)]) ⟨[], o2, none, none, by simp, by simp, w2, rfl, rfl⟩ ?_ ?_
    · rintro x rest env os ⟨xs, o', p, q, hl, hx, w', rfl, rfl⟩
      simp only [List.length_cons] at hl
      rw [turn_n (by simp)]
      refine SR.W.mono (steps_turn h v (most := most) (great := great) (xs := xs) (lo := 0 + (x : Int)) (q := q) (p := none) (by omega) w' (by have := a2; have := b2; omega)) ?_ (fun _ _ z => z.elim) (fun _ _ z => z.elim) (fun _ _ z => z.elim) (fun _ _ _ _ z => z.elim)
      rintro env os ⟨s, o3, q3, s1, s2, s3, w3, rfl, rfl⟩
      refine ⟨xs ++ [s], o3, _, q3, by simp; omega, fun y hy => ?_, w3.mono (by simp; omega), rfl, rfl⟩
      rcases List.mem_append.mp hy with z | z
      · exact hx y z
      · rw [List.mem_singleton.mp z]; exact ⟨s1, s2, s3⟩
    · rintro env os ⟨xs, o', p, q, hl, hx, w', rfl, rfl⟩
      simp only [List.length_nil, Nat.add_zero] at hl
      show (denSs fs [.ret _] _ _).W _
      refine W.ret (v := .iv (.tup (xs.map iv))) (os1 := [o', .lst (xs.map iv)]) ?_ ⟨_, rfl, xs, o', rfl, by omega, hx, w'.mono (by omega), rfl⟩
      simp [biF, rdAll, rd, biIV]
  obtain ⟨x, os', er, xs, o', rfl, hl, hx, w', rfl⟩ := key
  exact ⟨xs, o', ⟨by omega, fun s hs => ⟨(hx s hs).1, (hx s hs).2.1⟩⟩, hl, fun hg s hs => (hx s hs).2.2 hg, w', er⟩
end DP

set_option Elab.async false
set_option linter.all false
set_option maxRecDepth 100000
set_option maxHeartbeats 1000000
/-! Mt7: distances of deeds. -/
namespace DP
open PySem L2
section
variable {F : Fd}
theorem least_se (irr : Irr F) {x : List Step} (hi : InF F x) : SE F (leastL F x) (pileL F x) := by
  unfold leastL
  rw [arr_eq irr _ _ _ rfl hi.pile SE.refl]
  exact larr_se irr _ _ rfl
theorem least_iff (irr : Irr F) {x y : List Step} (hx : InF F x) (hy : InF F y) : leastL F x = leastL F y ↔ GE F x y := by
  constructor
  · intro h
    exact (least_se irr hx).symm.trans (h ▸ least_se irr hy)
  · intro h
    have hl : (pileL F x).length = (pileL F y).length := (SE.perm irr h).length_eq
    unfold leastL
    rw [arr_eq irr _ _ _ rfl hx.pile h, arr_eq irr _ _ _ rfl hy.pile SE.refl, hl]
theorem law_gl (irr : Irr F) {x : List Step} (hz : NZ x) : lenL (lpileL F x.length x) = gl F x :=
  (lenL_perm (SE.perm irr (lpile_spec irr x.length x (Nat.le_refl _) hz).2.2.1)).symm
/-- the distance -/
def gd (F : Fd) (x y : List Step) : Int := gl F (backL x ++ y)
theorem gd_pile (irr : Irr F) {x y : List Step} (hx : NZ x) (hy : NZ y) : gl F (backL (pileL F x) ++ pileL F y) = gd F x y :=
  GE.gl irr (GE.app irr (pile_nz irr hx).back hx.back (pile_nz irr hy) hy (GE.back irr (pile_nz irr hx) hx (GE.pile irr)) (GE.pile irr))
theorem gd_symm (irr : Irr F) {x y : List Step} (hx : NZ x) (hy : NZ y) : gd F y x = gd F x y := by
  unfold gd
  rw [← gl_back irr (hx.back.app hy), backL_app, backL_back]
theorem gd_self (irr : Irr F) {x : List Step} (hx : NZ x) : gd F x x = 0 := by
  have := GE.gl irr (back_cancel irr x [] [] hx NZ.nil NZ.nil)
  simp only [List.nil_append, List.append_nil] at this
  unfold gd
  rw [this]
  rfl
theorem gd_ge (irr : Irr F) {x x' y y' : List Step} (hx : NZ x) (hx' : NZ x') (hy : NZ y) (hy' : NZ y') (h : GE F x x') (k : GE F y y') : gd F x y = gd F x' y' :=
  GE.gl irr (GE.app irr hx.back hx'.back hy hy' (GE.back irr hx hx' h) k)
theorem gd_zero (irr : Irr F) {x y : List Step} (hx : NZ x) (hy : NZ y) : gd F x y = 0 ↔ GE F x y := by
  constructor
  · intro h
    have e : pileL F (backL x ++ y) = [] := lenL_pos (pile_nz irr (hx.back.app hy)) h
    have g : GE F (backL x ++ y) [] := by unfold GE; rw [e]; exact SE.refl
    have h1 : GE F (x ++ (backL x ++ y)) (x ++ []) := GE.app irr hx hx (hx.back.app hy) NZ.nil GE.refl g
    have h2 := cancel_back irr hx NZ.nil hy (F := F)
    simp only [List.nil_append, List.append_nil, List.append_assoc] at h1 h2
    exact h1.symm.trans h2
  · intro h
    rw [gd_ge irr hx hy hy hy h GE.refl, gd_self irr hy]
theorem gd_tri (irr : Irr F) {x y z : List Step} (hx : NZ x) (hy : NZ y) (hz : NZ z) : gd F x z ≤ gd F x y + gd F y z := by
  have h1 := cancel_back irr hy hx.back hz (F := F)
  have h2 := gl_app irr (hx.back.app hy) (hy.back.app hz)
  have e : gl F (backL x ++ z) = gl F (backL x ++ y ++ (backL y ++ z)) := by
    rw [← GE.gl irr h1]
    simp only [List.append_assoc]
  unfold gd
  omega
theorem gd_ahead (irr : Irr F) {x y z : List Step} (hx : NZ x) (hy : NZ y) (hz : NZ z) : gd F (z ++ x) (z ++ y) = gd F x y := by
  have h := back_cancel irr z (backL x) y hz hx.back hy (F := F)
  unfold gd
  rw [backL_app, ← GE.gl irr h]
  simp only [List.append_assoc]
theorem gl_red (irr : Irr F) {x : List Step} (h : Red F x) : gl F x = lenL x := by unfold gl; rw [pile_self irr h]
def unitT (t : Int) : Int := if 0 < t then 1 else -1
/-- the first unit of what leads on lies between -/
theorem gd_unit (irr : Irr F) {x y : List Step} (hx : NZ x) (hy : NZ y) {a : Nm} {t : Int} {r : List Step} (hr : Red F ((a, t) :: r)) (hz : NZ ((a, t) :: r)) (h : GE F (backL x ++ y) ((a, t) :: r)) :
    gd F x (x ++ [(a, unitT t)]) = 1 ∧ gd F (x ++ [(a, unitT t)]) y = gd F x y - 1 := by
  have ht : t ≠ 0 := hz (a, t) List.mem_cons_self
  have hu : unitT t ≠ 0 := by unfold unitT; split <;> omega
  have nu : NZ [(a, unitT t)] := fun s hs => by rw [List.mem_singleton.mp hs]; exact hu
  have nr : NZ r := fun s hs => hz s (List.mem_cons_of_mem _ hs)
  have e0 : gd F x y = absT t + lenL r := by
    unfold gd
    rw [GE.gl irr h, gl_red irr hr, lenL_cons]
  constructor
  · have h1 := back_cancel irr x [] [(a, unitT t)] hx NZ.nil nu (F := F)
    simp only [List.nil_append, List.append_assoc] at h1
    unfold gd
    rw [GE.gl irr h1, gl_red irr (by
      intro u b p v q w e
      have := congrArg List.length e
      simp at this
      omega), lenL_cons]
    unfold absT unitT
    simp only [lenL, List.map_nil, List.sum_nil]
    split <;> split <;> omega
  · have h2 : GE F (backL (x ++ [(a, unitT t)]) ++ y) ([(a, -unitT t)] ++ ((a, t) :: r)) := by
      rw [backL_app, List.append_assoc]
      exact GE.app irr nu.back nu.back (hx.back.app hy) hz GE.refl h
    have j := pile_join irr (x := []) (y := r) (a := a) (t := -unitT t) (q := t) NZ.nil (by omega) ht (F := F)
    simp only [List.nil_append, List.cons_append] at j h2
    have h3 := GE.gl irr (h2.trans j)
    unfold gd at e0 ⊢
    rw [h3, e0]
    by_cases q : -unitT t + t = 0
    · rw [if_pos q, List.nil_append]
      have rr : Red F r := fun u b p v p' w e => hr ((a, t) :: u) b p v p' w (by rw [e]; rfl)
      rw [gl_red irr rr]
      unfold absT
      unfold unitT at q
      split at q <;> split <;> omega
    · rw [if_neg q]
      have rr : Red F ((a, -unitT t + t) :: r) := Red.time (u := []) hr
      rw [List.cons_append, List.nil_append, gl_red irr rr, lenL_cons]
      unfold absT unitT at *
      simp only
      split <;> split <;> split at q <;> omega
end
end DP

set_option Elab.async false
set_option linter.all false
set_option maxRecDepth 100000
set_option maxHeartbeats 0
/-! Lk_k85: the law's link (printed by lk.py). -/
namespace DP.K85
open PySem PySem.Spec PyProof.Rows L2
def d_law_k85 : D := ⟨55, "law", ["script"], [false], ["script", "m", "turn", "field", "one", "two", "three", "k", "far", "near", "rest", "told_so", "part", "name", "times"],
  [.asg (.n 1) (.call true 9001 [.v 0]),
    .for (.n 2) (.rng1 (.bin .Add (.c (.int 4)) (.bi .min [.c (.int 8), .bi .len [.v 0]]))) [.asg (.n 3) (.call false 47 [.v 1, .c (.int 5)]),
    .asg (.t [.n 4, .n 5, .n 6]) (.lc false [7] (.n 7) (.rng1 (.c (.int 3))) [] (.call false 48 [.v 1, .v 3, .c (.int 6), .c (.bl true)])),
    .par [8, 9, 10] [.call false 49 [.v 3, .v 4, .v 5], .call false 49 [.v 3, .v 5, .v 6], .call false 49 [.v 3, .v 4, .v 6]],
    .asg (.n 11) (.lst false [.call false 50 [.v 3, .v 4, .v 5], .call false 50 [.v 3, .v 5, .v 4], .call false 50 [.v 3, .v 4, .v 5]]),
    .ife (.or (.not (.call false 51 [.v 11, .lst false [.v 8, .v 8, .v 8]])) (.cmp .NotEq (.call false 52 [.v 3, .v 4, .v 5]) (.cmp .Eq (.v 8) (.c (.int 0))))) [.ret (.c (.bl false))] [],
    .ife (.cmp .Gt (.call false 50 [.v 3, .v 4, .v 6]) (.bin .Add (.call false 50 [.v 3, .v 4, .v 5]) (.call false 50 [.v 3, .v 5, .v 6]))) [.ret (.c (.bl false))] [],
    .ife (.or (.cmp .NotEq (.call false 50 [.v 3, .bin .Add (.v 6) (.v 4), .bin .Add (.v 6) (.v 5)]) (.v 8)) (.cmp .NotEq (.call false 50 [.v 3, .v 4, .v 4]) (.c (.int 0)))) [.ret (.c (.bl false))] [],
    .ife (.or (.cmp .NotEq (.call false 53 [.v 3, .v 4, .v 5, .v 6]) (.cmp .Eq (.bin .Add (.v 8) (.v 9)) (.v 10))) (.cmp .IsNot (.call false 53 [.v 3, .v 4, .v 4, .v 5]) (.c (.bl true)))) [.ret (.c (.bl false))] [],
    .ife (.cmp .NotEq (.call false 50 [.v 3, .tup [], .v 5]) (.call false 45 [.v 3, .v 5])) [.ret (.c (.bl false))] [],
    .asg (.n 12) (.sHi (.call false 54 [.v 3, .bin .Add (.call false 46 [.v 4]) (.v 5)]) (.c (.int 1))),
    .asg (.n 12) (.bi .tuple [.lc false [13, 14] (.t [.n 13, .n 14]) (.it (.v 12)) [] (.tup [.v 13, .ite (.cmp .Gt (.v 14) (.c (.int 0))) (.c (.int 1)) (.neg (.c (.int 1)))])]),
    .ife (.or (.not (.call false 53 [.v 3, .v 4, .bin .Add (.v 4) (.v 12), .v 5])) (.not (.call false 53 [.v 3, .v 5, .bin .Add (.v 4) (.v 12), .v 4]))) [.ret (.c (.bl false))] []],
    .asg (.n 3) (.tup [.tup [.c (.str "a"), .c (.str "b"), .c (.str "c")], .tup [.tup [.c (.str "a"), .c (.str "b")]]]),
    .ife (.cmp .NotEq (.call false 50 [.v 3, .tup [.tup [.c (.str "a"), .c (.int 2)], .tup [.c (.str "c"), .c (.int 1)]], .tup [.tup [.c (.str "a"), .c (.int 3)], .tup [.c (.str "b"), .neg (.c (.int 1))], .tup [.c (.str "c"), .c (.int 1)]]]) (.c (.int 4))) [.ret (.c (.bl false))] [],
    .ife (.not (.call false 53 [.v 3, .tup [.tup [.c (.str "a"), .c (.int 1)]], .tup [], .tup [.tup [.c (.str "b"), .bin .Pow (.c (.int 10)) (.c (.int 30))]]])) [.ret (.c (.bl false))] [],
    .ret (.not (.call false 53 [.v 3, .tup [.tup [.c (.str "a"), .c (.int 1)]], .tup [], .tup [.tup [.c (.str "a"), .c (.int 2)]]]))]⟩
def top (i : Nat) : Stmt := PySem.Challenge.pw_deedpiles_k85_whole_distances.main.body.getD i (.Pass ⟨0, 0, 0, 0⟩)
def lw : Lw := ⟨top, [("MOST_TIMES", .int 1000000000000000000000000000000), ("MOST_STEPS", .int 60), ("MOST_LETTERS", .int 6), ("LETTERS", .str "abcdefghijklmnopqrstuvwxyz"), ("MOST_NAMES", .int 6), ("bool", .ty "bool"), ("int", .ty "int"), ("list", .ty "list"), ("str", .ty "str"), ("tuple", .ty "tuple")],
  ["abs", "all", "bool", "enumerate", "int", "isinstance", "len", "list", "max", "min", "range", "repr", "str", "sum", "tuple", "zip"],
  [(d_law_mixed, 38), (d_law_folded, 39)],
  [(d_law_field_v2, 43), (d_law_steps, 44), (d_law_apart_v2, 45), (d_law_meet, 46), (d_law_pile_v2, 47), (d_law_length_v2, 51), (d_law_back_v2, 50), (d_law_far, 52), (d_are_apart, 13), (d_meeting, 21), (d_push, 22), (d_piled, 23), (d_is_times, 17), (d_is_step, 18), (d_script_for, 19), (d_is_name, 8), (d_are_rising, 9), (d_are_names, 10), (d_is_pair, 11), (d_need_field, 12), (d_need_script, 20), (d_length_in, 28), (d_back_of, 27), (d_behind_in, 31), (d_distance_in, 33), (d_distance, 34), (d_law_like_v2, 42), (d_first_places, 24), (d_arranged, 25), (d_least_in, 26), (d_are_alike, 29), (d_three_scripts, 36), (d_is_between, 35), (d_law_firsts, 48), (d_law_least_v2, 49)],
  40, 41, d_law_k85, 53, 36, 35⟩
theorem chk0 : lw.chk0 = true := by decide +kernel
theorem chk1 : lw.chk1 = true := by decide +kernel
theorem chk2 : lw.chk2 = true := by decide +kernel
theorem derD : lw.DerD := by
  intro X W k f fd at_ mi ml fat
  have hN : X.N = drawN := at_.hN
  have hs : X.env.scope = defScope (top 40) := at_.hs
  have hu : X.A.units + 64 < cLine := by have := at_.rm.un; omega
  have hu1 : X.A.units + 1 < cLine := by omega
  have V : ∀ {i : Nat} {x : Str} {p : Pos}, drawN[i]? = some x → Vis (defScope (top 40)) x → (x == ("__debug__" : Str)) = false → (x == ("__classdict__" : Str)) = false → PE X (.Name x p) (tVar i) := fun h1 h2 h3 h4 => pe_var (by rw [hN]; exact h1) (by rw [hs]; exact h2) h3 h4
  have vm : ∀ {p : Pos}, PE X (.Name "m" p) (tVar 0) := V rfl (.inl rfl) (by decide) (by decide)
  have vl : ∀ {p : Pos}, PE X (.Name "limit" p) (tVar 1) := V rfl (.inl rfl) (by decide) (by decide)
  have vn : ∀ {p : Pos}, PE X (.Name "n" p) (tVar 2) := V rfl (.inl rfl) (by decide) (by decide)
  have vo : ∀ {p : Pos}, PE X (.Name "lot" p) (tVar 3) := V rfl (.inl rfl) (by decide) (by decide)
  have vh : ∀ {p : Pos}, PE X (.Name "here" p) (tVar 4) := V rfl (.inl rfl) (by decide) (by decide)
  have vc : ∀ {p : Pos}, PE X (.Name "cell" p) (tVar 5) := V rfl (.inl rfl) (by decide) (by decide)
  have gi : Gl X "int" := by show X.env.scope.names.lookup ("int" : Str) = _; rw [hs]; rfl
  have gl : Gl X "len" := by show X.env.scope.names.lookup ("len" : Str) = _; rw [hs]; rfl
  have gm : Gl X "_law_mixed" := by show X.env.scope.names.lookup ("_law_mixed" : Str) = _; rw [hs]; rfl
  have hi : ∀ {i : Nat} {x : Str}, drawN[i]? = some x → X.N[i]? = some x := fun h => by rw [hN]; exact h
  have st : ∀ {i : Nat} {x : Str} {p pos : Pos} {e : Expr} {t : TE}, drawN[i]? = some x → Loc (defScope (top 40)) x → PE X e t → swapsWith e (some (.Name x p)) pos.line X.env = pure false → PS X (.Assign [.Name x p] e pos) (tAsg t (gName i)) := fun h1 h2 h3 h4 => ps_set at_.nd (hi h1) (by rw [hs]; exact h2) h3 (hf := .inl (at_.fn _)) (hs := h4)
  exact pss_cons (st (i := 2) rfl (.inl rfl) (pe_dget hu1 vm pe_str (fun _ _ => rfl)) rfl)
    (pss_cons (ps_dput hu1 vm pe_str (pe_op op_add vn pe_int) rfl)
    (pss_cons (ps_if (pt_cmpR (op_neD hu) (pe_dget hu1 vm pe_str (fun _ _ => rfl)) (pe_lst pa_nil) (nomark _))
      (pss_cons (st (i := 3) rfl (.inl rfl) (pe_dget hu1 vm pe_str (fun _ _ => rfl)) rfl)
      (pss_cons (st (i := 4) rfl (.inl rfl) (pe_op op_mod (pe_callTy call_int1 gi mi boot_int (pa_cons vn pa_nil)) (pe_callB call_len_seq gl ml boot_len (pa_cons vo pa_nil))) rfl)
      (pss_cons (st (i := 5) rfl (.inl rfl) (pe_ix ix_list vo vh (fun _ _ => rfl)) rfl)
      (pss_one (ps_if (pt_cmpR op_gt vc pe_int (nomark _))
        (pss_cons (ps_asg (pe_op op_fdiv vc vl) (pg_sub vo vh set_list))
        (pss_one (ps_ret (pe_op op_mod (pe_callTy call_int1 gi mi boot_int (pa_cons vc pa_nil)) vl))))
        pss_nil)))))
      pss_nil)
    (pss_cons (st (i := 3) rfl (.inl rfl) (pe_dget hu1 vm pe_str (fun _ _ => rfl)) rfl)
    (pss_one (ps_ret (pe_op op_mod (pe_callTy call_int1 gi mi boot_int (pa_cons (pe_callG fat.go at_.gd at_.rm gm fat.hm fat.kp fat.bd at_.tk (pa_cons (pe_callG fat.go at_.gd at_.rm gm fat.hm fat.kp fat.bd at_.tk (pa_cons (pe_op op_add (pe_ix ix_list vo (pe_op op_mod (pe_callTy call_int1 gi mi boot_int (pa_cons vn pa_nil)) pe_int) (fun _ _ => rfl)) (pe_op op_mul pe_int (pe_op op_fdiv vn pe_int))) (pa_cons vn pa_nil)) rfl rfl) (pa_cons (pe_op op_add vn pe_int) pa_nil)) rfl rfl) pa_nil)) vl))))))
theorem derB : lw.DerB := by
  intro X W k f fd at_ fat R
  have hN : X.N = begunN := at_.hN
  have hs : X.env.scope = defScope (top 41) := at_.hs
  have hu1 : X.A.units + 1 < cLine := by have := at_.rm.un; omega
  have vs : ∀ {p : Pos}, PE X (.Name "script" p) (tVar 0) := pe_var (by rw [hN]; rfl) (by rw [hs]; exact .inl rfl) (by decide) (by decide)
  have vm : ∀ {p : Pos}, PE X (.Name "m" p) (tVar 1) := pe_var (by rw [hN]; rfl) (by rw [hs]; exact .inl rfl) (by decide) (by decide)
  have gm : Gl X "_law_folded" := by show X.env.scope.names.lookup ("_law_folded" : Str) = _; rw [hs]; rfl
  exact pss_cons (ps_set (i := 1) at_.nd (by rw [hN]; rfl) (by rw [hs]; exact .inl rfl) (pe_disp (pps_cons pe_str (pe_callG fat.go at_.gd at_.rm gm fat.hm fat.kp fat.bd at_.tk (pa_cons vs pa_nil) rfl rfl) (pps_cons pe_str (pe_lst pa_nil) (pps_cons pe_str pe_int pps_nil))) rfl rfl (by simp) (by decide)) (hf := .inl (at_.fn _)))
    (pss_cons (ps_dput hu1 vm pe_str (chkE_ok 40 R _ begunLc (by decide +kernel)).pe rfl)
    (pss_one (ps_ret vm)))

def loose0 : List Str := ["PileError", "BadField", "BadScript", "LETTERS", "MOST_LETTERS", "MOST_NAMES", "is_name", "are_rising", "are_names", "is_pair", "need_field", "are_apart", "MOST_STEPS", "MOST_TIMES", "is_times", "is_step", "script_for", "need_script", "meeting", "push", "piled", "first_places", "arranged", "least_in", "back_of", "length_in", "are_alike", "behind_in", "distance_in", "distance"]
def loose1 : List Str := ["is_between", "three_scripts", "_law_mixed", "_law_folded", "_law_draw", "_law_begun", "_law_like", "_law_field", "_law_steps", "_law_apart", "_law_meet", "_law_pile", "_law_firsts", "_law_least", "_law_back", "_law_length", "_law_far"]
def loose : List Str := loose0 ++ loose1
abbrev R : PySem.W.OpenRow := PySem.W.OpenLaw.row PySem.Challenge.rw_deedpiles_k85_whole_distances
abbrev hk : PySem.W.Hook := He.hookD 4 lw.fa lw.fn
def ob (s : PySem.W.SharedT) : He.AlD := He.obsDG 4 lw.fa lw.fn (HandSHeadRun.getT s)
theorem ob_eq (s : PySem.W.SharedT) : ob s = hk.obs s.abs := He.obsDG_eq (HandSHeadRun.getT_eq s)
theorem run (w : World) : HandSHeadRun.RunEq R (PySem.W.view R.prog [53]) hk ob 4000 loose w := by
  intro os
  kernel_rfl
end DP.K85

set_option Elab.async false
set_option linter.all false
set_option maxRecDepth 100000
set_option maxHeartbeats 2000000
/-! La85: the law k85. -/
namespace DP.K85
open PySem PySem.Spec L2
open En (iv da)
def hl : HL := [(54, d_law_least_v2.bor, pLeast2), (44, d_law_firsts.bor, pFirst2), (53, d_is_between.bor, pBetween), (40, d_three_scripts.bor, pThree), (52, d_are_alike.bor, pAlike), (15, d_least_in.bor, pLeast), (13, d_arranged.bor, pArranged), (12, d_first_places.bor, pFirsts), (51, d_law_like_v2.bor, pLike), (50, d_distance.bor, pDist), (39, d_distance_in.bor, pDistIn), (38, d_behind_in.bor, pBehind), (17, d_back_of.bor, pBack), (18, d_length_in.bor, pLen), (16, d_need_script.bor, pNeed), (8, d_need_field.bor, pField), (4, d_is_pair.bor, pPair), (3, d_are_names.bor, pNames), (2, d_are_rising.bor, pRise), (1, d_is_name.bor, pName), (7, d_script_for.bor, pScript), (6, d_is_step.bor, pStep), (5, d_is_times.bor, pTimes), (14, d_piled.bor, pPiled), (11, d_push.bor, pPush), (10, d_meeting.bor, pMeeting), (9, d_are_apart.bor, pApart), (49, d_law_far.bor, pFar), (46, d_law_back_v2.bor, pLBack), (45, d_law_length_v2.bor, pLen2), (43, d_law_pile_v2.bor, pPile2), (42, d_law_meet.bor, pMeet2), (41, d_law_apart_v2.bor, pApart2), (48, d_law_steps.bor, pLSteps), (47, d_law_field_v2.bor, pLField2), (9001, [false], pBegun), (9000, [true, false], pDraw)]
theorem have_B {fs : FS} (h : Have fs [(9001, [false], pBegun), (9000, [true, false], pDraw)]) : Have (fsI lw.itsB fs) hl := by
  refine stepH (d := d_law_field_v2) (P := pLField2) h (run_lfield2 (h.sp 9000)) fun fs h => ?_
  refine stepH (d := d_law_steps) (P := pLSteps) h (run_lsteps (h.sp 9000)) fun fs h => ?_
  refine stepH (d := d_law_apart_v2) (P := pApart2) h (run_apart2) fun fs h => ?_
  refine stepH (d := d_law_meet) (P := pMeet2) h (run_meet2 (h.sp 41)) fun fs h => ?_
  refine stepH (d := d_law_pile_v2) (P := pPile2) h (run_pile2 (h.sp 42)) fun fs h => ?_
  refine stepH (d := d_law_length_v2) (P := pLen2) h (run_len2 (h.sp 43)) fun fs h => ?_
  refine stepH (d := d_law_back_v2) (P := pLBack) h (run_back2) fun fs h => ?_
  refine stepH (d := d_law_far) (P := pFar) h (run_far (h.sp 45) (h.sp 46)) fun fs h => ?_
  refine stepH (d := d_are_apart) (P := pApart) h ((fun _ _ _ => run_apart)) fun fs h => ?_
  refine stepH (d := d_meeting) (P := pMeeting) h (run_meeting (h.sp 9)) fun fs h => ?_
  refine stepH (d := d_push) (P := pPush) h (run_push (h.sp 10)) fun fs h => ?_
  refine stepH (d := d_piled) (P := pPiled) h (run_piled (h.sp 11)) fun fs h => ?_
  refine stepH (d := d_is_times) (P := pTimes) h (run_times) fun fs h => ?_
  refine stepH (d := d_is_step) (P := pStep) h (run_step (h.sp 5)) fun fs h => ?_
  refine stepH (d := d_script_for) (P := pScript) h (run_script (h.sp 6)) fun fs h => ?_
  refine stepH (d := d_is_name) (P := pName) h (run_name) fun fs h => ?_
  refine stepH (d := d_are_rising) (P := pRise) h (run_rise) fun fs h => ?_
  refine stepH (d := d_are_names) (P := pNames) h (run_names (h.sp 1) (h.sp 2)) fun fs h => ?_
  refine stepH (d := d_is_pair) (P := pPair) h (run_pair) fun fs h => ?_
  refine stepH (d := d_need_field) (P := pField) h (run_field (h.sp 3) (h.sp 4) (h.sp 2)) fun fs h => ?_
  refine stepH (d := d_need_script) (P := pNeed) h (run_need (h.sp 7) (h.sp 8)) fun fs h => ?_
  refine stepH (d := d_length_in) (P := pLen) h (run_len) fun fs h => ?_
  refine stepH (d := d_back_of) (P := pBack) h (run_back) fun fs h => ?_
  refine stepH (d := d_behind_in) (P := pBehind) h (run_behind (h.sp 14) (h.sp 17)) fun fs h => ?_
  refine stepH (d := d_distance_in) (P := pDistIn) h (run_distin (h.sp 38) (h.sp 18)) fun fs h => ?_
  refine stepH (d := d_distance) (P := pDist) h (run_dist (h.sp 14) (h.sp 16) (h.sp 7) (h.sp 39)) fun fs h => ?_
  refine stepH (d := d_law_like_v2) (P := pLike) h (run_like2) fun fs h => ?_
  refine stepH (d := d_first_places) (P := pFirsts) h (run_firsts (h.sp 9)) fun fs h => ?_
  refine stepH (d := d_arranged) (P := pArranged) h (run_arranged (h.sp 12)) fun fs h => ?_
  refine stepH (d := d_least_in) (P := pLeast) h (run_least (h.sp 13) (h.sp 14)) fun fs h => ?_
  refine stepH (d := d_are_alike) (P := pAlike) h (run_alike (h.sp 16) (h.sp 15) (h.sp 7)) fun fs h => ?_
  refine stepH (d := d_three_scripts) (P := pThree) h (run_three (h.sp 16) (h.sp 7)) fun fs h => ?_
  refine stepH (d := d_is_between) (P := pBetween) h (run_between (h.sp 40) (h.sp 14) (h.sp 39)) fun fs h => ?_
  refine stepH (d := d_law_firsts) (P := pFirst2) h (run_first2 (h.sp 41)) fun fs h => ?_
  refine stepH (d := d_law_least_v2) (P := pLeast2) h (run_least2 (h.sp 44) (h.sp 43)) fun fs h => ?_
  exact h
theorem have_all : Have lw.fsB hl := by
  refine have_B ?_
  intro i b P e
  unfold lookH at e
  cases q : Nat.beq 9001 i with
  | true =>
    rw [q] at e
    cases e
    have := Nat.eq_of_beq_eq_true q
    subst this
    exact ⟨begunFn lw.Ff, rfl, rfl, fun ns hl => begun_run hl (run_folded (by omega))⟩
  | false =>
    rw [q] at e
    unfold lookH at e
    simp only [cond_false] at e
    cases q2 : Nat.beq 9000 i with
    | true =>
      rw [q2] at e
      cases e
      have := Nat.eq_of_beq_eq_true q2
      subst this
      exact ⟨drawFn, rfl, rfl, rfl⟩
    | false =>
      rw [q2] at e
      cases e
theorem mix_ok : IntFn2 lw.Fm (fun _ n => 0 ≤ n ∧ n < 2305843009213693952) mixed := run_mixed

end DP.K85

set_option Elab.async false
set_option linter.all false
set_option maxRecDepth 100000
set_option maxHeartbeats 2000000
/-! Lc85: one turn of the law k85. -/
namespace DP
def _root_.DP.S.bd : S → List S
  | .for _ _ b => b
  | .whl _ b => b
  | _ => []
end DP
namespace DP.K85
open PySem PySem.Spec L2
open En (iv da)
abbrev bd : List S := (d_law_k85.body.getD 1 .pas).bd
section
variable {fs : FS} (H : Have fs hl) {os : OS}
include H
theorem c2 {i : Nat} {P : Fn → Prop} {a b r : IV} (h : Sp0 fs i [false, false] P) (q : ∀ F0, P F0 → F0.run [.iv a, .iv b] [] = .ok (.iv r) []) : callN fs false i [.iv a, .iv b] os = .ok (.iv r) os := by rw [Sp0.c2 h q, adopt_fiv]
theorem c3 {i : Nat} {P : Fn → Prop} {a b c r : IV} (h : Sp0 fs i [false, false, false] P) (q : ∀ F0, P F0 → F0.run [.iv a, .iv b, .iv c] [] = .ok (.iv r) []) : callN fs false i [.iv a, .iv b, .iv c] os = .ok (.iv r) os := by rw [Sp0.c3 h q, adopt_fiv]
theorem c4 {i : Nat} {P : Fn → Prop} {a b c d r : IV} (h : Sp0 fs i [false, false, false, false] P) (q : ∀ F0, P F0 → F0.run [.iv a, .iv b, .iv c, .iv d] [] = .ok (.iv r) []) : callN fs false i [.iv a, .iv b, .iv c, .iv d] os = .ok (.iv r) os := by rw [Sp0.c4 h q, adopt_fiv]
variable {F : Fd} (v : VF F)
include v
theorem okS.nz {xs : List Step} (h : okS F xs) : NZ xs := fun s hs => by
  have := (h.2 s hs).2
  simp only [okT, Bool.and_eq_true, decide_eq_true_eq] at this
  exact this.1
theorem call_far {x y : List Step} (hx : okS F x) (hy : okS F y) : callN fs false 49 [.iv F.iv, .iv (.tup (x.map iv)), .iv (.tup (y.map iv))] os = .ok (.iv (.int (gd F x y))) os := by
  refine c3 H (P := pFar) (H.sp 49) fun F0 q => ?_
  have h1 := hx.1
  have h2 := hy.1
  rw [q F x y v (by omega), law_gl v.irr ((okS.nz H v hx).back.app (okS.nz H v hy))]
  rfl
theorem call_dist {x y : List Step} (hx : okS F x) (hy : okS F y) : callN fs false 50 [.iv F.iv, .iv (.tup (x.map iv)), .iv (.tup (y.map iv))] os = .ok (.iv (.int (gd F x y))) os := by
  refine c3 H (P := pDist) (H.sp 50) fun F0 q => ?_
  rw [q F x y v hx hy, gd_pile v.irr (okS.nz H v hx) (okS.nz H v hy)]
theorem call_btw {x y z : List Step} (hx : okS F x) (hy : okS F y) (hz : okS F z) : callN fs false 53 [.iv F.iv, .iv (.tup (x.map iv)), .iv (.tup (y.map iv)), .iv (.tup (z.map iv))] os = .ok (.iv (.bl (decide (gd F x y + gd F y z = gd F x z)))) os := by
  refine c4 H (P := pBetween) (H.sp 53) fun F0 q => ?_
  rw [q F x y z v hx hy hz, gd_pile v.irr (okS.nz H v hx) (okS.nz H v hy), gd_pile v.irr (okS.nz H v hy) (okS.nz H v hz), gd_pile v.irr (okS.nz H v hx) (okS.nz H v hz)]
theorem call_alike {x y : List Step} (hx : okS F x) (hy : okS F y) : callN fs false 52 [.iv F.iv, .iv (.tup (x.map iv)), .iv (.tup (y.map iv))] os = .ok (.iv (.bl (decide (gd F x y = 0)))) os := by
  refine c3 H (P := pAlike) (H.sp 52) fun F0 q => ?_
  rw [q F x y v hx hy]
  rw [decide_eq_decide.mpr ((least_iff v.irr hx.inF hy.inF).trans (gd_zero v.irr (okS.nz H v hx) (okS.nz H v hy)).symm)]
theorem call_len2 {x : List Step} (hx : okS F x) : callN fs false 45 [.iv F.iv, .iv (.tup (x.map iv))] os = .ok (.iv (.int (gl F x))) os := by
  refine c2 H (P := pLen2) (H.sp 45) fun F0 q => ?_
  have h1 := hx.1
  rw [q F x .tup v (.inl rfl) (by omega), law_gl v.irr (okS.nz H v hx)]
theorem call_lleast {w : List Step} (hz : NZ w) (hi : InF F w) (hl : w.length < 900000) : ∃ r : List Step, callN fs false 54 [.iv F.iv, .iv (.tup (w.map iv))] os = .ok (.iv (.tup (r.map iv))) os ∧ Red F r ∧ NZ r ∧ GE F w r ∧ InF F r := by
  obtain ⟨r1, r2, r3, _⟩ := lpile_spec v.irr w.length w (Nat.le_refl _) hz
  have hp : InF F (lpileL F w.length w) := fun s hs => hi.pile s ((r3.perm v.irr).mem_iff.mpr hs)
  refine ⟨_, c2 H (P := pLeast2) (H.sp 54) fun F0 q => q F w .tup v (.inl rfl) hl hp, ?_⟩
  have e : SE F (arrL F (lpileL F w.length w).length (lpileL F w.length w)) (lpileL F w.length w) := by
    rw [arr_eq v.irr _ _ _ rfl hp SE.refl]
    exact larr_se v.irr _ _ rfl
  have e2 := r1.se v.irr e.symm
  refine ⟨e2, fun s hs => r2 s ((e.perm v.irr).mem_iff.mp hs), ?_, fun s hs => hp s ((e.perm v.irr).mem_iff.mp hs)⟩
  unfold GE
  rw [pile_self v.irr e2]
  exact r3.trans e.symm
end
theorem gd_bound {F : Fd} (irr : Irr F) {x y : List Step} (hx : okS F x) (hy : okS F y) : 0 ≤ gd F x y ∧ gd F x y ≤ 200000000000000000000000000000000 := by
  have b : ∀ {z : List Step}, okS F z → lenL z ≤ 100000000000000000000000000000000 := fun {z} hz => by
    have h1 := lenL_le (n := 1000000000000000000000000000000) (by omega) (xs := z) fun s hs => by
      have := (hz.2 s hs).2
      simp only [okT, Bool.and_eq_true, decide_eq_true_eq] at this
      unfold absT
      split <;> omega
    have h2 := hz.1
    omega
  have h1 := gl_le irr (x := backL x ++ y)
  rw [lenL_app, lenL_backL] at h1
  have h2 := b hx
  have h3 := b hy
  exact ⟨lenL_nn _, by unfold gd; omega⟩
theorem turn_ok {fs : FS} (H : Have fs hl) {o : OB} {n : Nat} (hw : Dw n o) (hn : n < 100000000000000000) {env : Env} (h15 : env.length = 15) (e1 : look env 1 = some (some (.ref 0))) :
    (denSs fs bd env [o]).W { nx := fun env' os' => ∃ o2, Dw (n + 1000) o2 ∧ env'.length = 15 ∧ look env' 0 = look env 0 ∧ look env' 1 = some (some (.ref 0)) ∧ os' = [o2] } := by
  obtain ⟨F47, a1, a2, a3⟩ := H.sp 47
  obtain ⟨F, o1, v, f1, f2, w1, x1⟩ := a3 5 n o (by omega) (by omega) hw (by omega)
  have c47 : callN fs false 47 [.ref 0, .iv (.int 5)] [o] = .ok (.iv F.iv) [o1] := by
    rw [callN_of a1, callB10 (o' := o1) a2 rfl hw.alive x1 w1.alive, adopt_fiv]; rfl
  obtain ⟨F48, b1, b2, b3⟩ := H.sp 48
  have dr : ∀ (n : Nat) (o : OB), Dw n o → n < 800000000000000000 → ∃ xs o', okS F xs ∧ xs.length ≤ 6 ∧ Dw (n + 300) o' ∧ callN fs false 48 [.ref 0, .iv F.iv, .iv (.int 6), .iv (.bl true)] [o] = .ok (.iv (.tup (xs.map iv))) [o'] := by
    intro n o hw hn
    obtain ⟨xs, o', q1, q2, _, q3, q4⟩ := b3 F 6 true n o v (by omega) (by omega) hw hn
    exact ⟨xs, o', q1, by omega, q3, by rw [callN_of b1, callB1000 (o' := o') b2 rfl hw.alive q4 q3.alive, adopt_fiv]; rfl⟩
  obtain ⟨x, o2, hx, lx, w2, c48a⟩ := dr _ o1 w1 (by omega)
  obtain ⟨y, o3, hy, ly, w3, c48b⟩ := dr _ o2 w2 (by omega)
  obtain ⟨z, o4, hz, lz, w4, c48c⟩ := dr _ o3 w3 (by omega)
  have nx := okS.nz H v hx
  have ny := okS.nz H v hy
  have nz := okS.nz H v hz
  refine W.asg (v := .iv F.iv) (os1 := [o1]) (by simp [getV_look, e1, c47]) (by simp [h15]) ?_
  refine W.unp (v := .iv (.lst [.tup (x.map iv), .tup (y.map iv), .tup (z.map iv)])) (os1 := [o4]) (env' := (((env.set 3 (some (.iv F.iv))).set 4 (some (.iv (.tup (x.map iv))))).set 5 (some (.iv (.tup (y.map iv))))).set 6 (some (.iv (.tup (z.map iv))))) ?_ (by simp [asgP, asgT, asgTs, h15]) ?_
  · have r3 : rngL 0 3 = [.int 0, .int 1, .int 2] := rfl
    simp [rng1_int (show rngOk 3 = true from rfl), r3, compGo, compStep, wipeE, h15, getV_look, e1, c48a, c48b, c48c, szOk]
  generalize hE : (((env.set 3 (some (PV.iv F.iv))).set 4 (some (PV.iv (.tup (x.map iv))))).set 5 (some (PV.iv (.tup (y.map iv))))).set 6 (some (PV.iv (.tup (z.map iv)))) = E
  have hl : E.length = 15 := by rw [← hE]; simp [h15]
  have g0 : look E 0 = look env 0 := by rw [← hE]; simp
  have g1 : look E 1 = some (some (.ref 0)) := by rw [← hE]; simp [e1]
  have g3 : look E 3 = some (some (.iv F.iv)) := by rw [← hE]; simp [h15]
  have g4 : look E 4 = some (some (.iv (.tup (x.map iv)))) := by rw [← hE]; simp [h15]
  have g5 : look E 5 = some (some (.iv (.tup (y.map iv)))) := by rw [← hE]; simp [h15]
  have g6 : look E 6 = some (some (.iv (.tup (z.map iv)))) := by rw [← hE]; simp [h15]
  clear hE
  have d1 := call_far H v (os := [o4]) hx hy
  have d2 := call_far H v (os := [o4]) hy hz
  have d3 := call_far H v (os := [o4]) hx hz
  refine W.par (vs := [.iv (.int (gd F x y)), .iv (.int (gd F y z)), .iv (.int (gd F x z))]) (os1 := [o4]) (env' := ((E.set 8 (some (.iv (.int (gd F x y))))).set 9 (some (.iv (.int (gd F y z))))).set 10 (some (.iv (.int (gd F x z))))) ?_ (by simp [setAll, hl]) ?_
  · simp [getV_look, g3, g4, g5, g6, d1, d2, d3]
  generalize hE : ((E.set 8 (some (PV.iv (.int (gd F x y))))).set 9 (some (PV.iv (.int (gd F y z))))).set 10 (some (PV.iv (.int (gd F x z)))) = E'
  have hl' : E'.length = 15 := by rw [← hE]; simp [hl]
  have k0 : look E' 0 = look env 0 := by rw [← hE]; simp [g0]
  have k1 : look E' 1 = some (some (.ref 0)) := by rw [← hE]; simp [g1]
  have k3 : look E' 3 = some (some (.iv F.iv)) := by rw [← hE]; simp [g3]
  have k4 : look E' 4 = some (some (.iv (.tup (x.map iv)))) := by rw [← hE]; simp [g4]
  have k5 : look E' 5 = some (some (.iv (.tup (y.map iv)))) := by rw [← hE]; simp [g5]
  have k6 : look E' 6 = some (some (.iv (.tup (z.map iv)))) := by rw [← hE]; simp [g6]
  have k8 : look E' 8 = some (some (.iv (.int (gd F x y)))) := by rw [← hE]; simp [hl]
  have k9 : look E' 9 = some (some (.iv (.int (gd F y z)))) := by rw [← hE]; simp [hl]
  have k10 : look E' 10 = some (some (.iv (.int (gd F x z)))) := by rw [← hE]; simp [hl]
  clear hE g0 g1 g3 g4 g5 g6 hl e1 h15
  have p1 := call_dist H v (os := [o4]) hx hy
  have p2 := call_dist H v (os := [o4]) hy hx
  have p3 := call_dist H v (os := [o4]) hx hz
  have p4 := call_dist H v (os := [o4]) hy hz
  have p5 := call_dist H v (os := [o4]) hx hx
  rw [gd_symm v.irr nx ny] at p2
  rw [gd_self v.irr nx] at p5
  have bd0 := gd_bound v.irr hx hy
  have sh : Sh 0 1930 (.int (gd F x y)) := sh_i (by
    have : (gd F x y).natAbs < 2 ^ 1000 := Nat.lt_of_le_of_lt (show (gd F x y).natAbs ≤ 200000000000000000000000000000000 by omega) (by decide)
    exact Nat.lt_of_lt_of_le this (Nat.pow_le_pow_right (by decide) (by decide)))
  have lk : callN fs false 51 [.iv (.lst [.int (gd F x y), .int (gd F x y), .int (gd F x y)]), .iv (.lst [.int (gd F x y), .int (gd F x y), .int (gd F x y)])] [o4] = .ok (.iv (.bl true)) [o4] :=
    c2 H (P := pLike) (H.sp 51) fun F0 q => q _ 1 _ (sh_l (k := 0) (n := 1930) fun a ha => by
      simp only [List.mem_cons, List.not_mem_nil, or_false, or_self] at ha
      rw [ha]; exact sh) (by omega) (by simp)
  have al := call_alike H v (os := [o4]) hx hy
  have z3 : szOk 3 = true := rfl
  refine W.asg (v := .iv (.lst [.int (gd F x y), .int (gd F x y), .int (gd F x y)])) (os1 := [o4]) ?_ (by simp [hl']) ?_
  · simp [getV_look, k3, k4, k5, p1, p2, z3]
  refine W.iff (os1 := [o4]) ?_ ?_
  · have ce : cmpPV [o4] .NotEq (.iv (.bl (decide (gd F x y = 0)))) (.iv (.bl (decide (gd F x y = 0)))) = some false := by cases decide (gd F x y = 0) <;> rfl
    simp [getV_look, hl', k3, k4, k5, k8, z3, lk, al, ce]
  have tri := gd_tri v.irr nx ny nz
  refine W.iff (os1 := [o4]) ?_ ?_
  · simp [getV_look, k3, k4, k5, k6, p1, p3, p4]
    omega
  have hzx : okS F (z ++ x) := ⟨by simp; omega, fun s hs => by
    rcases List.mem_append.mp hs with q | q
    · exact hz.2 s q
    · exact hx.2 s q⟩
  have hzy : okS F (z ++ y) := ⟨by simp; omega, fun s hs => by
    rcases List.mem_append.mp hs with q | q
    · exact hz.2 s q
    · exact hy.2 s q⟩
  have p6 := call_dist H v (os := [o4]) hzx hzy
  rw [gd_ahead v.irr nx ny nz] at p6
  have ad1 := bin_add_tup (os := [o4]) (xs := z.map iv) (ys := x.map iv) (by simp; omega)
  have ad2 := bin_add_tup (os := [o4]) (xs := z.map iv) (ys := y.map iv) (by simp; omega)
  rw [← List.map_append] at ad1 ad2
  refine W.iff (os1 := [o4]) ?_ ?_
  · simp only [e_or, e_cmp, e_call, ps_cons, ps_nil, e_bin, e_v, e_c, getV_look, look_ne (show (11 : Nat) ≠ 3 by decide), look_ne (show (11 : Nat) ≠ 4 by decide), look_ne (show (11 : Nat) ≠ 5 by decide), look_ne (show (11 : Nat) ≠ 6 by decide), look_ne (show (11 : Nat) ≠ 8 by decide), k3, k4, k5, k6, k8, gv_some, bind_ok, ad1, ad2, p6, p5, cmp_ne_int, Option.map_some, lift_some, brR_bl]
    simp
  have t1 := call_btw H v (os := [o4]) hx hy hz
  have t2 := call_btw H v (os := [o4]) hx hx hy
  rw [gd_self v.irr nx] at t2
  simp only [Int.zero_add, decide_true] at t2
  refine W.iff (os1 := [o4]) ?_ ?_
  · have ce : ∀ b : Bool, cmpPV [o4] .NotEq (.iv (.bl b)) (.iv (.bl b)) = some false := by intro b; cases b <;> rfl
    simp [getV_look, k3, k4, k5, k6, k8, k9, k10, t1, t2, ce]
  have he : okS F [] := ⟨by simp, fun s hs => by cases hs⟩
  have p7 := call_dist H v (os := [o4]) he hy
  have p8 := call_len2 H v (os := [o4]) hy
  have g7 : gd F [] y = gl F y := rfl
  rw [g7] at p7
  have z0 : szOk 0 = true := rfl
  refine W.iff (os1 := [o4]) ?_ ?_
  · simp only [List.map_nil] at p7
    simp [getV_look, k3, k5, z0, p7, p8]
  -- the part
  obtain ⟨r, cl, rr, rn, rg, ri⟩ := call_lleast H v (os := [o4]) (nx.back.app ny) (fun s hs => by
    rcases List.mem_append.mp hs with q | q
    · exact backL_in hx.inF s q
    · exact hy.inF s q) (by simp [backL_len]; omega)
  have cb : callN fs false 46 [.iv (.tup (x.map iv))] [o4] = .ok (.iv (.tup ((backL x).map iv))) [o4] := by
    rw [Sp0.c1 (P := pLBack) (H.sp 46) fun F0 q => q x .tup (.inl rfl) (by omega), adopt_fiv]
  have ad3 := bin_add_tup (os := [o4]) (xs := (backL x).map iv) (ys := y.map iv) (by simp [backL_len]; omega)
  rw [← List.map_append] at ad3
  have ct : cutI (r.map iv) none (some (1 : Int)) = (r.take 1).map iv := by
    rw [cutI_map]
    have := cut_hi r 1
    rw [show ((1 : Nat) : Int) = 1 from rfl] at this
    rw [this]
  refine W.asg (v := .iv (.tup ((r.take 1).map iv))) (os1 := [o4]) ?_ (by simp [hl']) ?_
  · simp only [e_sHi, e_call, ps_cons, ps_nil, e_bin, e_v, e_c, getV_look, look_ne (show (11 : Nat) ≠ 3 by decide), look_ne (show (11 : Nat) ≠ 4 by decide), look_ne (show (11 : Nat) ≠ 5 by decide), k3, k4, k5, gv_some, bind_ok, cb, ad3, cl, asInt_int, rd, Option.bind_some, slcIV, ct, Option.map_some, lift_some]
  generalize hp : (r.take 1).map (fun s : Step => ((s.1, unitT s.2) : Step)) = part
  have cg : ∀ env : Env, env.length = 15 → compGo (compStep [13, 14] (.t [.n 13, .n 14]) (wipeE env [13, 14]) (denTs fs []) (denE fs (.tup [.v 13, .ite (.cmp .Gt (.v 14) (.c (.int 0))) (.c (.int 1)) (.neg (.c (.int 1)))]))) ((r.take 1).map iv) [] [o4] = .ok (part.map iv) [o4] := by
    intro env he
    rw [compGo_m (g := fun s : Step => iv ((s.1, unitT s.2) : Step)) (r.take 1) (fun s _ => by
      have z2 : szOk 2 = true := rfl
      unfold unitT
      by_cases q : 0 < s.2
      · simp [compStep, wipeE, he, getV_look, z2, q, iv_int]
        rfl
      · simp [compStep, wipeE, he, getV_look, z2, q, iv_int]
        rfl) (by simp; omega), ← hp]
    simp [List.map_map, Function.comp_def]
  refine W.asg (v := .iv (.tup (part.map iv))) (os1 := [o4]) ?_ (by simp [hl']) ?_
  · have := cg ((E'.set 11 (some (PV.iv (.lst [.int (gd F x y), .int (gd F x y), .int (gd F x y)])))).set 12 (some (.iv (.tup ((r.take 1).map iv))))) (by simp [hl'])
    generalize (r.take 1).map iv = rt at *
    simp [getV_look, hl', itIV, this]
  have okp : okS F (x ++ part) ∧ part.length ≤ 1 := by
    have lp : part.length ≤ 1 := by rw [← hp]; simp; omega
    refine ⟨⟨by simp; omega, fun s hs => ?_⟩, lp⟩
    rcases List.mem_append.mp hs with q | q
    · exact hx.2 s q
    · rw [← hp] at q
      obtain ⟨s', m, rfl⟩ := List.mem_map.mp q
      refine ⟨ri s' (List.mem_of_mem_take m), ?_⟩
      show okT (unitT s'.2) = true
      unfold unitT
      split <;> decide
  have nxp := okS.nz H v okp.1
  have mid : gd F x (x ++ part) + gd F (x ++ part) y = gd F x y := by
    cases r with
    | nil =>
      simp only [List.take_nil, List.map_nil] at hp
      rw [← hp, List.append_nil, gd_self v.irr nx]
      omega
    | cons s r =>
      obtain ⟨a, t⟩ := s
      simp only [List.take_succ_cons, List.take_zero, List.map_cons, List.map_nil] at hp
      obtain ⟨m1, m2⟩ := gd_unit v.irr nx ny rr rn rg
      rw [← hp]
      omega
  have t3 := call_btw H v (os := [o4]) hx okp.1 hy
  rw [mid] at t3
  simp only [decide_true] at t3
  have t4 := call_btw H v (os := [o4]) hy okp.1 hx
  rw [gd_symm v.irr nxp ny, gd_symm v.irr nx nxp, gd_symm v.irr nx ny, show gd F (x ++ part) y + gd F x (x ++ part) = gd F x y by omega] at t4
  simp only [decide_true] at t4
  have ad4 := bin_add_tup (os := [o4]) (xs := x.map iv) (ys := part.map iv) (by simp; omega)
  rw [← List.map_append] at ad4
  refine W.iff (os1 := [o4]) ?_ (W.nil ⟨o4, w4.mono (by omega), by simp [hl'], by simp [k0], by simp [k1], rfl⟩)
  simp only [e_or, e_not, e_call, ps_cons, ps_nil, e_bin, e_v, getV_look, List.set_set, look_ne (show (12 : Nat) ≠ 3 by decide), look_ne (show (12 : Nat) ≠ 4 by decide), look_ne (show (12 : Nat) ≠ 5 by decide), look_ne (show (11 : Nat) ≠ 3 by decide), look_ne (show (11 : Nat) ≠ 4 by decide), look_ne (show (11 : Nat) ≠ 5 by decide), k3, k4, k5, gv_some, bind_ok, look_self (show 12 < (E'.set 11 (some (PV.iv (.lst [.int (gd F x y), .int (gd F x y), .int (gd F x y)])))).length by simp [hl']), ad4, t3, t4, brR_bl, cond_true]
  simp
end DP.K85

set_option Elab.async false
set_option linter.all false
set_option maxRecDepth 100000
set_option maxHeartbeats 2000000
/-! Lf85: the law k85 holds at all draws. -/
namespace DP.K85
open PySem PySem.Spec L2
open En (iv da)
def Fh : Fd := ⟨[nmS "a", nmS "b", nmS "c"], [(nmS "a", nmS "b")]⟩
theorem vFh : VF Fh := vf_of (by decide +kernel) (by decide +kernel)
theorem ok_of {F : Fd} {w : List Step} (h : (Nat.ble w.length 60 && w.all fun s => hasB s.1 F.names && okT s.2) = true) : okS F w := by
  simp only [Bool.and_eq_true, List.all_eq_true] at h
  exact ⟨Nat.le_of_ble_eq_true h.1, fun s hs => ⟨hasB_iff.mp (h.2 s hs).1, (h.2 s hs).2⟩⟩
def wa : List Step := [(nmS "a", 2), (nmS "c", 1)]
def wb : List Step := [(nmS "a", 3), (nmS "b", -1), (nmS "c", 1)]
def wc : List Step := [(nmS "a", 1)]
def wd : List Step := [(nmS "b", 10 ^ 30)]
def we : List Step := [(nmS "a", 2)]
theorem d1 : gd Fh wa wb = 4 := by decide +kernel
theorem d2 : decide (gd Fh wc [] + gd Fh [] wd = gd Fh wc wd) = true := by decide +kernel
theorem d3 : decide (gd Fh wc [] + gd Fh [] we = gd Fh wc we) = false := by decide +kernel
theorem xs5 {fs : FS} {env : Env} {os : OS} : denE fs (.tup [.tup [.c (.str "b"), .bin .Pow (.c (.int 10)) (.c (.int 30))]]) env os = .ok (.iv (.tup (wd.map iv))) os := by rfl
theorem last_ok {fs : FS} (H : Have fs hl) {env : Env} {o : OB} (h15 : env.length = 15) : (denSs fs (d_law_k85.body.drop 2) env [o]).W { rt := fun v _ => v = .iv (.bl true) } := by
  show (denSs fs [_, _, _, _] _ _).W _
  have z0 : szOk 0 = true := rfl
  have z1 : szOk 1 = true := rfl
  have z2 : szOk 2 = true := rfl
  have z3 : szOk 3 = true := rfl
  have c1 := call_dist H vFh (os := [o]) (x := wa) (y := wb) (ok_of (by decide +kernel)) (ok_of (by decide +kernel))
  have c2 := call_btw H vFh (os := [o]) (x := wc) (y := []) (z := wd) (ok_of (by decide +kernel)) (ok_of (by decide +kernel)) (ok_of (by decide +kernel))
  have c3 := call_btw H vFh (os := [o]) (x := wc) (y := []) (z := we) (ok_of (by decide +kernel)) (ok_of (by decide +kernel)) (ok_of (by decide +kernel))
  rw [d1] at c1
  rw [d2] at c2
  rw [d3] at c3
  refine W.asg (v := .iv Fh.iv) (os1 := [o]) (by rfl) (by simp [h15]) ?_
  refine W.iff (os1 := [o]) ?_ ?_
  · have x1 : denE fs (.tup [.tup [.c (.str "a"), .c (.int 2)], .tup [.c (.str "c"), .c (.int 1)]]) (env.set 3 (some (.iv Fh.iv))) [o] = .ok (.iv (.tup (wa.map iv))) [o] := rfl
    have x2 : denE fs (.tup [.tup [.c (.str "a"), .c (.int 3)], .tup [.c (.str "b"), .neg (.c (.int 1))], .tup [.c (.str "c"), .c (.int 1)]]) (env.set 3 (some (.iv Fh.iv))) [o] = .ok (.iv (.tup (wb.map iv))) [o] := rfl
    simp only [e_cmp, e_call, ps_cons, ps_nil, x1, x2, e_v, getV_look, look_self (show 3 < env.length by omega), gv_some, bind_ok, c1, e_c, cmp_ne_int, Option.map_some, lift_some]
    rfl
  have x3 : denE fs (.tup [.tup [.c (.str "a"), .c (.int 1)]]) (env.set 3 (some (.iv Fh.iv))) [o] = .ok (.iv (.tup (wc.map iv))) [o] := rfl
  have x4 : denE fs (.tup []) (env.set 3 (some (.iv Fh.iv))) [o] = .ok (.iv (.tup (([] : List Step).map iv))) [o] := rfl
  refine W.iff (os1 := [o]) ?_ ?_
  · have x5 : denE fs (.tup [.tup [.c (.str "b"), .bin .Pow (.c (.int 10)) (.c (.int 30))]]) (env.set 3 (some (.iv Fh.iv))) [o] = .ok (.iv (.tup (wd.map iv))) [o] := rfl
    simp only [e_not, e_call, ps_cons, ps_nil, x3, x4, x5, e_v, getV_look, look_self (show 3 < env.length by omega), gv_some, bind_ok, c2, brR_bl, cond_true]
  refine W.ret (v := .iv (.bl true)) (os1 := [o]) ?_ rfl
  have x5 : denE fs (.tup [.tup [.c (.str "a"), .c (.int 2)]]) (env.set 3 (some (.iv Fh.iv))) [o] = .ok (.iv (.tup (we.map iv))) [o] := rfl
  simp only [e_not, e_call, ps_cons, ps_nil, x3, x4, x5, e_v, getV_look, look_self (show 3 < env.length by omega), gv_some, bind_ok, c3, brR_bl, cond_false]
theorem law_run : ∀ ns : List Int, ns.length ≤ 63 → lw.Fl.run [.iv (.scr ns)] [] = .ok (.iv (.bl true)) [] := by
  intro ns hns
  obtain ⟨o, w, e0⟩ := call_begun (have_all.sp 9001) hns
  have key : ∃ x os', (fnD lw.fsB d_law_k85).run [.iv (.scr ns)] [] = .ok (.iv x) os' ∧ x = .bl true ∧ os' = [] := by
    refine run_W ?_
    show (denSs lw.fsB [_, _, _, _, _, _] [some (.iv (.scr ns)), none, none, none, none, none, none, none, none, none, none, none, none, none, none] []).W _
    refine W.asg (v := .ref 0) (os1 := [o]) (by simp [e0]) (by simp) ?_
    obtain ⟨k, k12, ek⟩ := rng_min (fs := lw.fsB) (env := [some (.iv (.scr ns)), some (.ref 0), none, none, none, none, none, none, none, none, none, none, none, none, none]) (os := [o]) (ns := ns) (c := 4) (d := 8) (i := 0) rfl (by omega)
    refine W.for (xs := rngL 0 k) (os1 := [o]) ek ?_
    refine for_Wr (fun rest env os => ∃ (o : OB) (n : Nat), env.length = 15 ∧ look env 0 = some (some (.iv (.scr ns))) ∧ look env 1 = some (some (.ref 0)) ∧ os = [o] ∧ Dw n o ∧ n + 1000 * rest.length < 100000) ⟨o, 0, rfl, rfl, rfl, rfl, w, by simp; omega⟩ ?_ ?_
    · rintro x rest env os ⟨o, n, h15, e0, e1, rfl, hw, hn⟩
      simp only [List.length_cons] at hn
      rw [turn_n (by omega)]
      refine (turn_ok have_all hw (by omega) (env := env.set 2 _) (by simp [h15]) (by simp [e1])).mono ?_ (fun _ _ z => z.elim) (fun _ _ z => z.elim) (fun _ _ z => z.elim) (fun _ _ _ _ z => z.elim)
      rintro env' os' ⟨o2, w2, l, q0, q1, rfl⟩
      exact ⟨o2, n + 1000, l, by rw [q0]; simp [e0], q1, rfl, w2, by omega⟩
    · rintro env os ⟨o, n, h15, e0, e1, rfl, hw, hn⟩
      show (denSs lw.fsB (d_law_k85.body.drop 2) env [o]).W _
      exact (last_ok have_all h15).mono (fun _ _ z => z.elim) (fun v o q => ⟨_, q, rfl, rfl⟩) (fun _ _ z => z.elim) (fun _ _ z => z.elim) (fun _ _ _ _ z => z.elim)
  obtain ⟨x, os', e, rfl, rfl⟩ := key
  exact e
end DP.K85
open PySem PySem.W PySem.Calls PyProof.Rows
set_option maxRecDepth 100000 in
set_option maxHeartbeats 0 in
theorem PySem.Challenge.cw_deedpiles_k85_whole_distances_holds : PySem.Challenge.rw_deedpiles_k85_whole_distances.Holds := by
  w_on; o_law
  refine HandSHeadRun.head_any (r := OpenLaw.row PySem.Challenge.rw_deedpiles_k85_whole_distances) (q := view (OpenLaw.row PySem.Challenge.rw_deedpiles_k85_whole_distances).prog [53]) (H := DP.K85.hk) (ob := DP.K85.ob) (M := 4000) (loose := DP.K85.loose) (d := HandSHeadRun.topDef (OpenLaw.row PySem.Challenge.rw_deedpiles_k85_whole_distances).prog 53) (kwd := []) DP.K85.ob_eq
    (by kernel_rfl) (fun s => by kernel_rfl) DP.K85.run (by kernel_rfl) (by kernel_rfl) (by kernel_rfl) (by rfl) (by first | assumption | decide +kernel) (by decide +kernel) ⟨rfl, rfl, rfl, rfl, rfl, by decide +kernel⟩ ?hw ?hc
  case hw => w_witness2
  case hc =>
    refine DP.walkG (l := PySem.Challenge.rw_deedpiles_k85_whole_distances) (n := 63) (k := DP.K85.lw.lev) (x := "script") (F := DP.K85.lw.Fl) rfl (by decide) (by kernel_rfl) ⟨rfl, by decide +kernel, by decide +kernel⟩ rfl DP.K85.law_run ?_
    intro w mg fa h Y G hmg0
    obtain ⟨K, KX, c⟩ := Y
    have hmg : mg ("law" : PySem.Str) = some (.ref fa) := by
      have e : (HandSHeadRun.topDef (OpenLaw.row PySem.Challenge.rw_deedpiles_k85_whole_distances).prog 53).name = ("law" : PySem.Str) := by kernel_rfl
      rw [← e]
      exact hmg0
    obtain ⟨fd, hb, hF⟩ := DP.Lw.facts (P := (PySem.Challenge.rw_deedpiles_k85_whole_distances).prog) (w := w) DP.K85.chk0 DP.K85.chk1 DP.K85.chk2 DP.K85.mix_ok rfl DP.K85.derD DP.K85.derB KX G hmg c
    exact ⟨K, fd, KX, hb, hF⟩
