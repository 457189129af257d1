import PyProof.Rows.All
import Wide.All
import OpenK.AllK
import Wide.FinOn
import HandS.ForMost
import HandS.Flow
import HandS.IsInst
import HandS.Walk
import HandS.Wide
import HandS.Exc
import HandS.ExcInit
import HandS.ExcField
import HandS.TupAny
import HandS.CallSlots
import HandS.Lambda
import HandS.TupMul
import HandS.Style
import HandS.Zip
import KE.GoesMore
import KE.GoesEnum
import HandS.Hot
import HandS.HotCalls
import HandS.ExcCtx
import HandS.ExcIs
import KE.KExcIs
import HandS.Words
import HandS.HeadHook4
import HandS.HeadWalk
import HandS.Head2
import PySem.Challenge.RW_keptalone_k01_rules_books_and_weights_by
set_option Elab.async false
set_option linter.all false
set_option maxRecDepth 100000
/-! AM1: a small abstract machine over plain data (PyData): lists and tuples by value, a list that a def still changes is owned by one slot. -/
namespace AM
open PySem

/-- what a slot holds -/
inductive SV where
  | val (d : PyData)
  /-- a list that this def may change; io: it is the caller's -/
  | own (io : Bool) (xs : List PyData)
  /-- a caught exception: its class, what it keeps -/
  | exc (c : Nat) (w : PyData)
abbrev AS := List (Option SV)
/-- what an expression gives: a value, the list that slot i owns, a new list -/
inductive AV where
  | val (d : PyData)
  | bor (i : Nat)
  | new (xs : List PyData)
inductive Out (α : Type) where
  | ok (a : α) (s : AS)
  | err (c : Nat) (w : PyData) (s : AS)
  | bad
abbrev M (α : Type) := AS → Out α
def Out.bd {α β : Type} (o : Out α) (f : α → AS → Out β) : Out β := match o with
  | .ok a s => f a s
  | .err c w s => .err c w s
  | .bad => .bad
def bnd {α β : Type} (m : M α) (f : α → M β) : M β := fun s => (m s).bd f
def ret {α : Type} (a : α) : M α := fun s => .ok a s
def fail {α : Type} : M α := fun _ => .bad
def lift {α : Type} (o : Option α) : M α := fun s => match o with
  | some a => .ok a s
  | none => .bad

/-- a slot -/
def sl (s : AS) (i : Nat) : Option SV := (s[i]?).join
/-- what is given away as a value: an owned list is owned no more -/
def fz : AV → M PyData
  | .val d => fun s => .ok d s
  | .new xs => fun s => .ok (.list xs) s
  | .bor i => fun s => match sl s i with
    | some (.own false xs) => .ok (.list xs) (s.set i (some (.val (.list xs))))
    | some (.val d) => .ok d s
    | _ => .bad
/-- a new list is no more changed -/
def nz : AV → M AV
  | .new xs => fun s => .ok (.val (.list xs)) s
  | a => fun s => .ok a s
def rdo (s : AS) : AV → Option PyData
  | .val d => some d
  | .bor i => match sl s i with
    | some (.own _ xs) => some (.list xs)
    | some (.val d) => some d
    | _ => none
  | .new _ => none
/-- what stands there now -/
def rd (a : AV) : M PyData := fun s => match rdo s a with
  | some d => .ok d s
  | none => .bad
def fzs : List AV → M (List PyData)
  | [] => ret []
  | a :: r => bnd (fz a) fun d => bnd (fzs r) fun ds => ret (d :: ds)

inductive BOp where
  | add | sub | mul | fdiv | mod | pow
  deriving DecidableEq
inductive COp where
  | eq | ne | lt | le | gt | ge
  deriving DecidableEq
inductive Ty where
  | int | bool | str | tuple | list
  deriving DecidableEq
inductive Blt where
  | len | int | max | min | tuple | list | sum | any | all | abs
  deriving DecidableEq
inductive Mth where
  | append | extend | pop | join
  deriving DecidableEq
/-- targets -/
inductive G where
  | nm (i : Nat)
  | tp (gs : G)
  | nil
  | cons (g gs : G)
inductive E where
  | var (i : Nat)
  | lit (d : PyData)
  | glb (x : Str) (d : PyData)
  | neg (a : E)
  | nt (a : E)
  | an (l : E)
  | orr (l : E)
  | ite (t a b : E)
  | bin (o : BOp) (a b : E)
  | cmp (o : COp) (a b : E)
  | chn (o o' : COp) (a b c : E)
  | isN (k : Bool) (a : E)
  | nil
  | cons (a b : E)
  | tup (l : E)
  | lst (l : E)
  | ix (a i : E)
  | slc (a lo hi : E)
  | rev (a : E)
  | nop
  | call (f : Nat) (l : E)
  | blt (b : Blt) (l : E)
  | inst (a : E) (t : Ty)
  | excIs (i c : Nat)
  | what (i : Nat)
  | meth (m : Mth) (a l : E)
  | comp (elt : E) (g : G) (it tests : E) (own : List Nat)
  | told (f : Nat) (body : E)
  | range1 (a : E)
  | range2 (a b : E)
  | enum (a : E)
  | zip (a b : E)
inductive S where
  | nil
  | seq (s r : S)
  | asg (g : G) (e : E)
  | par (is : List Nat) (l : E)
  | setIx (i : Nat) (k e : E)
  | aug (i : Nat) (o : BOp) (e : E)
  | expr (e : E)
  | ret (e : E)
  | retN
  | ifs (t : E) (a b : S)
  | whl (t : E) (b : S)
  | forr (g : G) (it : E) (b : S)
  | rais (c : Nat) (e : E)
  | tryc (b : S) (c i : Nat) (h : S)
  | pass
  | brk
  | cont

/-! ### operations on data -/
def mulOk (i j : Int) : Bool := decide (i.natAbs.log2 + j.natAbs.log2 < 1000000)
def divOk (j : Int) : Bool := decide (0 < j) && decide (j.natAbs.log2 < 9000)
def powOk (i j : Int) : Bool := decide (0 ≤ j) && decide (j ≤ 1000000) && decide (i.natAbs < 2 ^ 64)
def fits (n : Nat) : Bool := decide (n ≤ sizeLine)
def binD : BOp → PyData → PyData → Option AV
  | .add, .int i, .int j => some (.val (.int (i + j)))
  | .add, .str x, .str y => if fits (x.length + y.length) then some (.val (.str (x ++ y))) else none
  | .add, .tuple x, .tuple y => if fits (x.length + y.length) then some (.val (.tuple (x ++ y))) else none
  | .add, .list x, .list y => if fits (x.length + y.length) then some (.new (x ++ y)) else none
  | .sub, .int i, .int j => some (.val (.int (i - j)))
  | .mul, .int i, .int j => if mulOk i j then some (.val (.int (i * j))) else none
  | .mul, .tuple x, .int k => if decide (k < 2 ^ 63) && decide (-(2 ^ 63) ≤ k) && fits (x.length * k.toNat) then some (.val (.tuple (List.replicate k.toNat x).flatten)) else none
  | .fdiv, .int i, .int j => if divOk j then some (.val (.int (i / j))) else none
  | .mod, .int i, .int j => if decide (0 < j) then some (.val (.int (i % j))) else none
  | .pow, .int i, .int j => if powOk i j then some (.val (.int (i ^ j.toNat))) else none
  | _, _, _ => none
def scalD : PyData → PyData → Bool
  | .none, .none => true | .none, .int _ => true | .int _, .none => true | .none, .bool _ => true | .bool _, .none => true | .none, .str _ => true | .str _, .none => true
  | .int _, .int _ => true | .bool _, .bool _ => true | .str _, .str _ => true
  | .int _, .str _ => true | .str _, .int _ => true | .bool _, .str _ => true | .str _, .bool _ => true
  | _, _ => false
def eqOk (d e : PyData) : Bool := scalD d e || (PyData.canLay0 d && PyData.canLay0 e && decide (min d.depth e.depth ≤ 64))
def cmpD : COp → PyData → PyData → Option Bool
  | .eq, d, e => if eqOk d e then some (PyData.eqv d e) else none
  | .ne, d, e => if eqOk d e then some (!PyData.eqv d e) else none
  | .lt, .int i, .int j => some (decide (i < j))
  | .le, .int i, .int j => some (decide (i ≤ j))
  | .gt, .int i, .int j => some (decide (j < i))
  | .ge, .int i, .int j => some (decide (j ≤ i))
  | _, _, _ => none
def trD : PyData → Option Bool
  | .none => some false
  | .bool b => some b
  | .int i => some (i != 0)
  | .str x => if fits x.length then some ((x.length : Int) != 0) else none
  | .list xs => some (!xs.isEmpty)
  | .tuple xs => some (!xs.isEmpty)
  | .dict _ => none
def isNone : PyData → Bool
  | .none => true
  | _ => false
def instD : Ty → PyData → Bool
  | .int, .int _ => true
  | .int, .bool _ => true
  | .bool, .bool _ => true
  | .str, .str _ => true
  | .tuple, .tuple _ => true
  | .list, .list _ => true
  | _, _ => false
/-- what isinstance is asked of here -/
def instOk : PyData → Bool
  | .dict _ => false
  | _ => true
def seqD : PyData → Option (List PyData)
  | .list xs => some xs
  | .dict [(.list xs, .none)] => some xs
  | .tuple xs => some xs
  | _ => none
def ixD : PyData → PyData → Option PyData
  | .list xs, .int i => L2.atI xs i
  | .dict [(.list xs, .none)], .int i => L2.atI xs i
  | .tuple xs, .int i => L2.atI xs i
  | _, _ => none
def cutD (xs : List PyData) (lo hi : Option Int) : List PyData := (xs.drop (HT.sIx xs.length 0 lo)).take (HT.sIx xs.length xs.length hi - HT.sIx xs.length 0 lo)
def slcD : PyData → Option Int → Option Int → Option AV
  | .list xs, lo, hi => some (.new (cutD xs lo hi))
  | .tuple xs, lo, hi => some (.val (.tuple (cutD xs lo hi)))
  | _, _, _ => none
def revD : PyData → Option AV
  | .list xs => some (.new xs.reverse)
  | .tuple xs => some (.val (.tuple xs.reverse))
  | _ => none
def partD : PyData → Option (Option Int)
  | .int i => some (some i)
  | _ => none
def intsD : List PyData → Option (List Int)
  | [] => some []
  | .int i :: r => (intsD r).map (i :: ·)
  | _ => none
def boolsD : List PyData → Option (List Bool)
  | [] => some []
  | .bool b :: r => (boolsD r).map (b :: ·)
  | _ => none
def strsD : List PyData → Option (List Str)
  | [] => some []
  | .str b :: r => (strsD r).map (b :: ·)
  | _ => none
def bltD : Blt → List PyData → Option AV
  | .len, [.list xs] => some (.val (.int xs.length))
  | .len, [.tuple xs] => some (.val (.int xs.length))
  | .len, [.dict [(.list xs, .none)]] => some (.val (.int xs.length))
  | .len, [.str x] => if fits x.length then some (.val (.int x.length)) else none
  | .int, [.int i] => some (.val (.int i))
  | .int, [.bool b] => some (.val (.int (if b then 1 else 0)))
  | .max, [.int i, .int j] => some (.val (.int (if j > i then j else i)))
  | .min, [.int i, .int j] => some (.val (.int (if j < i then j else i)))
  | .tuple, [.list xs] => some (.val (.tuple xs))
  | .tuple, [.tuple xs] => some (.val (.tuple xs))
  | .list, [.list xs] => some (.new xs)
  | .list, [.tuple xs] => some (.new xs)
  | .sum, [.list xs] => (intsD xs).map fun ns => .val (.int ns.sum)
  | .any, [.list xs] => (boolsD xs).map fun bs => .val (.bool (bs.any id))
  | .all, [.list xs] => (boolsD xs).map fun bs => .val (.bool (bs.all id))
  | .abs, [.int i] => some (.val (.int (if i < 0 then -i else i)))
  | _, _ => none

/-! ### calls -/
inductive FArg where
  | val (d : PyData)
  | io (xs : List PyData)
inductive RV where
  | val (d : PyData)
  | new (xs : List PyData)
inductive FR where
  | ret (r : RV) (ios : List (List PyData))
  | err (c : Nat) (w : PyData) (ios : List (List PyData))
  | bad
/-- what a def's text says of its calls: which parameters may be lent; what the call gives -/
structure Calls where
  by_ : Nat → List Bool
  go : Nat → List FArg → FR
  /-- is the first exception class the second, or below it -/
  sub : Nat → Nat → Bool
  /-- what a catching def's suite makes of an exception -/
  told : Nat → Nat → PyData → Option PyData
/-- arguments as they are handed over: the slots that are lent -/
def prep : List AV → List Bool → AS → Option (List FArg × List Nat × AS)
  | [], _, s => some ([], [], s)
  | a :: r, bs, s =>
    let lend : Option (Nat × List PyData) := match a, bs.headD false with
      | .bor i, true => (match sl s i with
        | some (.own _ xs) => some (i, xs)
        | _ => none)
      | _, _ => none
    match lend with
    | some (i, xs) => (prep r bs.tail s).bind fun (fs, is, s') => if i ∈ is then none else (match sl s' i with
      | some (.own _ ys) => some (.io ys :: fs, i :: is, s')
      | _ => none)
    | none => match fz a s with
      | .ok d s1 => (prep r bs.tail s1).map fun (fs, is, s') => (.val d :: fs, is, s')
      | _ => none
def setOwn (i : Nat) (xs : List PyData) (s : AS) : AS := match sl s i with
  | some (.own b _) => s.set i (some (.own b xs))
  | _ => s
def putIos : List Nat → List (List PyData) → AS → AS
  | i :: is, x :: xs, s => putIos is xs (setOwn i x s)
  | _, _, s => s
def rvA : RV → AV
  | .val d => .val d
  | .new xs => .new xs
def callA (Φ : Calls) (f : Nat) (avs : List AV) : M AV := fun s => match prep avs (Φ.by_ f) s with
  | some (fs, is, s1) => (match Φ.go f fs with
    | .ret r ios => .ok (rvA r) (putIos is ios s1)
    | .err c w ios => .err c w (putIos is ios s1)
    | .bad => .bad)
  | none => .bad

/-! ### walks -/
/-- the items, and the slots whose lists must stand meanwhile -/
abbrev Src := List PyData × List (Nat × List PyData)
open Classical in
noncomputable def chk (gs : List (Nat × List PyData)) (s : AS) : Bool := gs.all fun p => match sl s p.1 with
  | some (.own _ xs) => decide (xs = p.2)
  | some (.val d) => decide (d = .list p.2)
  | _ => false
def gd : AV → List PyData → List (Nat × List PyData)
  | .bor i, xs => [(i, xs)]
  | _, _ => []
/-- a thing that is walked: its items -/
def srcD (a : AV) : PyData → Option Src
  | .list xs => some (xs, gd a xs)
  | .tuple xs => some (xs, [])
  | .dict [(.list xs, .none)] => some (xs, [])
  | _ => none
def srcOf (a : AV) : M Src := bnd (rd a) fun d => lift (srcD a d)
def rngOk (j : Int) : Bool := decide (-(2 ^ 62) ≤ j) && decide (j < 2 ^ 62)
def rangeD (lo hi : Int) : List PyData := (List.range (hi - lo).toNat).map fun i => .int (lo + (i : Nat))
def enumD (i : Nat) : List PyData → List PyData
  | [] => []
  | x :: r => .tuple [.int i, x] :: enumD (i + 1) r
def zipD : List PyData → List PyData → List PyData
  | x :: xs, y :: ys => .tuple [x, y] :: zipD xs ys
  | _, _ => []
mutual
def bindG : G → PyData → AS → Option AS
  | .nm i, d, s => some (s.set i (some (.val d)))
  | .tp gs, .tuple ds, s => bindGs gs ds s
  | _, _, _ => none
def bindGs : G → List PyData → AS → Option AS
  | .nil, [], s => some s
  | .cons g gs, d :: ds, s => (bindG g d s).bind (bindGs gs ds)
  | _, _, _ => none
end
def zipK (x : AV) (d : PyData) (y : AV) (e : PyData) : Option Src := match d, e with
  | .list xs, .list ys => some (zipD xs ys, gd x xs ++ gd y ys)
  | .tuple xs, .tuple ys => some (zipD xs ys, [])
  | _, _ => none
def wipeA (s : AS) : List Nat → AS
  | [] => s
  | v :: vs => (wipeA s vs).set v none
def isOwn : Option SV → Bool
  | some (.own _ _) => true
  | _ => false
/-- the slots vs as they were in s0 -/
def backA (s0 s : AS) : List Nat → AS
  | [] => s
  | v :: vs => (backA s0 s vs).set v (sl s0 v)
noncomputable def compL (gs : List (Nat × List PyData)) (own : List Nat) (g : G) (tests : M Bool) (elt : M PyData) : List PyData → M (List PyData)
  | [] => fun s => if chk gs s then .ok [] s else .bad
  | d :: r => fun s => if chk gs s then (match bindG g d (wipeA s own) with
    | none => .bad
    | some s1 => (match tests s1 with
      | .ok true s2 => (match elt s2 with
        | .ok x s3 => bnd (compL gs own g tests elt r) (fun xs => ret (x :: xs)) (wipeA s3 own)
        | _ => .bad)
      | .ok false s2 => compL gs own g tests elt r (wipeA s2 own)
      | _ => .bad)) else .bad
noncomputable def compM (src : Src) (own : List Nat) (g : G) (tests : M Bool) (elt : M PyData) : M AV := fun s =>
  if (own.any fun v => isOwn (sl s v)) || (src.2.any fun p => own.contains p.1) then .bad
  else match compL src.2 own g tests elt src.1 (wipeA s own) with
    | .ok xs s1 => if fits xs.length then .ok (.new xs) (backA s s1 own) else .bad
    | _ => .bad

/-! ### methods -/
def joinD (x : Str) (xs : List PyData) : Option Str := (strsD xs).bind fun ys => let z := Txt.join x ys; if fits z.length && fits ((ys.map (·.length)).sum + ys.length * x.length) then some z else none
def methM : Mth → AV → List AV → M AV
  | .append, .bor i, [a] => bnd (fz a) fun d s => (match sl s i with
    | some (.own b xs) => if decide (xs.length < sizeLine) then .ok (.val .none) (s.set i (some (.own b (xs ++ [d])))) else .bad
    | _ => .bad)
  | .extend, .bor i, [a] => bnd (rd a) fun d s => (match d, sl s i with
    | .list ys, some (.own b xs) => if fits (xs.length + ys.length) then .ok (.val .none) (s.set i (some (.own b (xs ++ ys)))) else .bad
    | _, _ => .bad)
  | .pop, .bor i, [] => fun s => (match sl s i with
    | some (.own b xs) => (match xs[xs.length - 1]? with
      | some y => .ok (.val y) (s.set i (some (.own b xs.dropLast)))
      | none => .bad)
    | _ => .bad)
  | .join, .val (.str x), [a] => bnd (rd a) fun d => (match d with
    | .list ys => lift ((joinD x ys).map fun z => .val (.str z))
    | _ => fail)
  | _, _, _ => fail

/-- may the method be asked of it -/
def mOk (m : Mth) (a : AV) : M Unit := fun s => match m, a with
  | .join, .val (.str _) => .ok () s
  | .join, _ => .bad
  | _, .bor i => (match sl s i with
    | some (.own _ _) => .ok () s
    | _ => .bad)
  | _, _ => .bad

/-! ### expressions -/
def opn (m : M AV) : M AV := bnd m nz
def vl (m : M AV) : M PyData := bnd m fz
/-- what is walked by a for is frozen -/
def itA (fr : Bool) (m : M AV) : M AV := if fr then bnd (vl m) fun d => ret (.val d) else opn m
def trA (a : AV) : M Bool := bnd (rd a) fun d => lift (trD d)
def bin2 (o : BOp) (a b : M AV) : M AV := bnd (opn a) fun x => bnd (opn b) fun y => bnd (rd x) fun d => bnd (rd y) fun e => lift (binD o d e)
def cmp2 (o : COp) (a b : M AV) : M Bool := bnd (opn a) fun x => bnd (opn b) fun y => bnd (rd x) fun d => bnd (rd y) fun e => lift (cmpD o d e)
def chn3 (o o' : COp) (a b c : M AV) : M Bool := bnd (opn a) fun x => bnd (opn b) fun y => bnd (rd x) fun d => bnd (rd y) fun e => bnd (lift (cmpD o d e)) fun k =>
  if k then bnd (opn c) fun z => bnd (rd y) fun e' => bnd (rd z) fun h => lift (cmpD o' e' h) else ret false
def rds : List AV → M (List PyData)
  | [] => ret []
  | a :: r => bnd (rd a) fun d => bnd (rds r) fun ds => ret (d :: ds)
def toldM (Φ : Calls) (f : Nat) (m : M AV) : M AV := fun s => match vl m s with
  | .ok d s1 => .ok (.val (.tuple [.str "told", d])) s1
  | .err c w s1 => (match Φ.told f c w with
    | some d => .ok (.val d) s1
    | none => .bad)
  | .bad => .bad
mutual
noncomputable def ev (Φ : Calls) : E → M AV
  | .var i => fun s => match sl s i with
    | some (.val d) => .ok (.val d) s
    | some (.own _ _) => .ok (.bor i) s
    | _ => .bad
  | .lit d => ret (.val d)
  | .glb _ d => ret (.val d)
  | .neg a => bnd (opn (ev Φ a)) fun x => bnd (rd x) fun d => (match d with
    | .int i => ret (.val (.int (-i)))
    | _ => fail)
  | .nt a => bnd (bnd (opn (ev Φ a)) trA) fun b => ret (.val (.bool !b))
  | .an l => evAn Φ l
  | .orr l => evOr Φ l
  | .ite t a b => bnd (tst Φ t) fun k => if k then ev Φ a else ev Φ b
  | .bin o a b => bin2 o (ev Φ a) (ev Φ b)
  | .cmp o a b => bnd (cmp2 o (ev Φ a) (ev Φ b)) fun k => ret (.val (.bool k))
  | .chn o o' a b c => bnd (chn3 o o' (ev Φ a) (ev Φ b) (ev Φ c)) fun k => ret (.val (.bool k))
  | .isN k a => bnd (opn (ev Φ a)) fun x => bnd (rd x) fun d => ret (.val (.bool (isNone d == k)))
  | .tup l => bnd (bnd (evs Φ l) fzs) fun ds => if fits ds.length then ret (.val (.tuple ds)) else fail
  | .lst l => bnd (bnd (evs Φ l) fzs) fun ds => if fits ds.length then ret (.new ds) else fail
  | .ix a i => bnd (opn (ev Φ a)) fun x => bnd (vl (ev Φ i)) fun j => bnd (rd x) fun d => bnd (lift (ixD d j)) fun y => ret (.val y)
  | .slc a lo hi => bnd (opn (ev Φ a)) fun x => bnd (part Φ lo) fun l => bnd (part Φ hi) fun h => bnd (rd x) fun d => lift (slcD d l h)
  | .rev a => bnd (opn (ev Φ a)) fun x => bnd (rd x) fun d => lift (revD d)
  | .call f l => bnd (evs Φ l) (callA Φ f)
  | .blt b l => bnd (bnd (evs Φ l) rds) fun ds => lift (bltD b ds)
  | .inst a t => bnd (opn (ev Φ a)) fun x => bnd (rd x) fun d => if instOk d then ret (.val (.bool (instD t d))) else fail
  | .excIs i c => fun s => match sl s i with
    | some (.exc k _) => .ok (.val (.bool (Φ.sub k c))) s
    | _ => .bad
  | .what i => fun s => match sl s i with
    | some (.exc _ w) => .ok (.val w) s
    | _ => .bad
  | .meth m a l => bnd (opn (ev Φ a)) fun x => bnd (mOk m x) fun _ => bnd (evs Φ l) (methM m x)
  | .comp elt g it tests own => bnd (evIt Φ false it) fun src => compM src own g (tsts Φ tests) (vl (ev Φ elt))
  | .told f b => toldM Φ f (ev Φ b)
  | _ => fail
noncomputable def part (Φ : Calls) : E → M (Option Int)
  | .nop => ret none
  | e => bnd (vl (ev Φ e)) fun d => lift (partD d)
noncomputable def evs (Φ : Calls) : E → M (List AV)
  | .nil => ret []
  | .cons a r => bnd (opn (ev Φ a)) fun x => bnd (evs Φ r) fun xs => ret (x :: xs)
  | _ => fail
noncomputable def evAn (Φ : Calls) : E → M AV
  | .cons a .nil => ev Φ a
  | .cons a r => bnd (opn (ev Φ a)) fun x => bnd (trA x) fun k => if k then evAn Φ r else ret x
  | _ => fail
noncomputable def evOr (Φ : Calls) : E → M AV
  | .cons a .nil => ev Φ a
  | .cons a r => bnd (opn (ev Φ a)) fun x => bnd (trA x) fun k => if k then ret x else evOr Φ r
  | _ => fail
noncomputable def tst (Φ : Calls) : E → M Bool
  | .nt a => bnd (tst Φ a) fun b => ret !b
  | .an l => tstAn Φ l
  | .orr l => tstOr Φ l
  | .ite t a b => bnd (tst Φ t) fun k => if k then tst Φ a else tst Φ b
  | .cmp o a b => cmp2 o (ev Φ a) (ev Φ b)
  | .chn o o' a b c => chn3 o o' (ev Φ a) (ev Φ b) (ev Φ c)
  | e => bnd (opn (ev Φ e)) trA
noncomputable def tstAn (Φ : Calls) : E → M Bool
  | .cons a .nil => tst Φ a
  | .cons a r => bnd (tst Φ a) fun k => if k then tstAn Φ r else ret false
  | _ => fail
noncomputable def tstOr (Φ : Calls) : E → M Bool
  | .cons a .nil => tst Φ a
  | .cons a r => bnd (tst Φ a) fun k => if k then ret true else tstOr Φ r
  | _ => fail
noncomputable def tsts (Φ : Calls) : E → M Bool
  | .nil => ret true
  | .cons a .nil => tst Φ a
  | _ => fail
noncomputable def evIt (Φ : Calls) (fr : Bool) : E → M Src
  | .range1 a => bnd (vl (ev Φ a)) fun d => (match d with
    | .int j => if rngOk j then ret (rangeD 0 j, []) else fail
    | _ => fail)
  | .range2 a b => bnd (vl (ev Φ a)) fun d => bnd (vl (ev Φ b)) fun e => (match d, e with
    | .int i, .int j => if rngOk i && rngOk j then ret (rangeD i j, []) else fail
    | _, _ => fail)
  | .enum a => bnd (bnd (itA fr (ev Φ a)) srcOf) fun p => ret (enumD 0 p.1, p.2)
  | .zip a b => bnd (itA fr (ev Φ a)) fun x => bnd (itA fr (ev Φ b)) fun y => bnd (rd x) fun d => bnd (rd y) fun e => lift (zipK x d y e)
  | e => bnd (itA fr (ev Φ e)) srcOf
end

/-! ### statements -/
inductive SO where
  | nx (s : AS)
  | ret (r : RV) (s : AS)
  | brk (s : AS)
  | ct (s : AS)
  | err (c : Nat) (w : PyData) (s : AS)
  | bad
def Out.so {α : Type} (o : Out α) (f : α → AS → SO) : SO := match o with
  | .ok a s => f a s
  | .err c w s => .err c w s
  | .bad => .bad
/-- what a name stands for from now on -/
def take1 : AV → M SV
  | .val d => ret (.val d)
  | .new xs => ret (.own false xs)
  | .bor i => bnd (fz (.bor i)) fun d => ret (.val d)
def retA : AV → M RV
  | .val d => ret (.val d)
  | .new xs => ret (.new xs)
  | .bor i => fun s => match sl s i with
    | some (.own false xs) => .ok (.new xs) (s.set i none)
    | some (.val d) => .ok (.val d) s
    | _ => .bad
def forL (g : G) (b : AS → SO) : List PyData → AS → SO
  | [], s => .nx s
  | d :: r, s => match bindG g d s with
    | none => .bad
    | some s1 => (match b s1 with
      | .nx s2 => forL g b r s2
      | .ct s2 => forL g b r s2
      | .brk s2 => .nx s2
      | o => o)
def whN (c : M Bool) (b : AS → SO) : Nat → AS → Option SO
  | 0, _ => none
  | n + 1, s => match c s with
    | .ok true s1 => (match b s1 with
      | .nx s2 => whN c b n s2
      | .ct s2 => whN c b n s2
      | .brk s2 => some (.nx s2)
      | o => some o)
    | .ok false s1 => some (.nx s1)
    | .err k w s1 => some (.err k w s1)
    | .bad => some .bad
open Classical in
noncomputable def whl (c : M Bool) (b : AS → SO) (s : AS) : SO := if h : ∃ n, ∃ o, whN c b n s = some o then Classical.choose (Classical.choose_spec h) else .bad
/-- no caught error is seen -/
def noX (s : AS) : AS := s.map fun o => match o with
  | some (.exc _ _) => none
  | o => o
/-- the suite's slot is empty behind it -/
def gone (i : Nat) : SO → SO
  | .nx s => .nx ((noX s).set i none)
  | .ret r s => .ret r ((noX s).set i none)
  | .brk s => .brk ((noX s).set i none)
  | .ct s => .ct ((noX s).set i none)
  | _ => .bad
def setAll : List Nat → List PyData → AS → Option AS
  | [], [], s => some s
  | i :: is, d :: ds, s => setAll is ds (s.set i (some (.val d)))
  | _, _, _ => none
noncomputable def ex (Φ : Calls) : S → AS → SO
  | .nil => fun s => .nx s
  | .seq a r => fun s => (match ex Φ a s with
    | .nx s1 => ex Φ r s1
    | o => o)
  | .asg (.nm i) e => fun s => (bnd (ev Φ e) take1 s).so fun v s1 => .nx (s1.set i (some v))
  | .asg g e => fun s => (vl (ev Φ e) s).so fun d s1 => (match bindG g d s1 with
    | some s2 => .nx s2
    | none => .bad)
  | .par is l => fun s => (bnd (evs Φ l) fzs s).so fun ds s1 => (match setAll is ds s1 with
    | some s2 => .nx s2
    | none => .bad)
  | .setIx i k e => fun s => (bnd (vl (ev Φ e)) (fun d => bnd (opn (ev Φ (.var i))) fun o => bnd (vl (ev Φ k)) fun n => ret (d, o, n)) s).so fun p s1 => (match p.2.1, p.2.2 with
    | .bor j, .int n => (match sl s1 j with
      | some (.own b xs) => (match L2.ixN xs.length n with
        | some m => .nx (s1.set j (some (.own b (xs.set m p.1))))
        | none => .bad)
      | _ => .bad)
    | _, _ => .bad)
  | .aug i o e => fun s => (bin2 o (ev Φ (.var i)) (ev Φ e) s).so fun v s1 => (match v with
    | .val d => .nx (s1.set i (some (.val d)))
    | _ => .bad)
  | .expr e => fun s => (ev Φ e s).so fun _ s1 => .nx s1
  | .ret e => fun s => (bnd (ev Φ e) retA s).so fun r s1 => .ret r s1
  | .retN => fun s => .ret (.val .none) s
  | .ifs t a b => fun s => (tst Φ t s).so fun k s1 => if k then ex Φ a s1 else ex Φ b s1
  | .whl t b => whl (tst Φ t) (ex Φ b)
  | .forr g it b => fun s => (evIt Φ true it s).so fun p s1 => if p.2.isEmpty then forL g (ex Φ b) p.1 s1 else .bad
  | .rais c e => fun s => (vl (ev Φ e) s).so fun d s1 => .err c d s1
  | .tryc b c i h => fun s => (match ex Φ b s with
    | .err k w s1 => if Φ.sub k c then gone i (ex Φ h ((noX s1).set i (some (.exc k w)))) else .err k w s1
    | o => o)
  | .pass => fun s => .nx s
  | .brk => fun s => .brk s
  | .cont => fun s => .ct s

/-! ### defs -/
structure FDef where
  np : Nat
  ns : Nat
  by_ : List Bool
  body : S
def fargS : FArg → Option SV
  | .val d => some (.val d)
  | .io xs => some (.own true xs)
def startA (ns : Nat) (args : List FArg) : AS := args.map fargS ++ List.replicate (ns - args.length) none
def iosOf : List FArg → AS → Option (List (List PyData))
  | [], _ => some []
  | .val _ :: r, _ :: s => iosOf r s
  | .io _ :: r, some (.own true xs) :: s => (iosOf r s).map (xs :: ·)
  | _, _ => none
def finR (args : List FArg) (r : RV) (s : AS) : FR := match iosOf args s with
  | some ios => .ret r ios
  | none => .bad
noncomputable def runF (Φ : Calls) (fd : FDef) (args : List FArg) : FR := if args.length = fd.np then (match ex Φ fd.body (startA fd.ns args) with
  | .nx s => finR args (.val .none) s
  | .ret r s => finR args r s
  | .err c w s => (match iosOf args s with
    | some ios => .err c w ios
    | none => .bad)
  | _ => .bad) else .bad
/-- a program: its defs, its classes of errors -/
structure Prog where
  fns : List FDef
  sub : Nat → Nat → Bool
  told : Nat → Nat → PyData → Option PyData
noncomputable def phi (Γ : Prog) : Nat → Calls
  | 0 => ⟨fun f => ((Γ.fns[f]?).map (·.by_)).getD [], fun _ _ => .bad, Γ.sub, Γ.told⟩
  | n + 1 => ⟨fun f => ((Γ.fns[f]?).map (·.by_)).getD [], fun f args => match Γ.fns[f]? with
    | some fd => runF (phi Γ n) fd args
    | none => .bad, Γ.sub, Γ.told⟩
end AM
set_option Elab.async false
set_option linter.all false
set_option maxRecDepth 100000
set_option maxHeartbeats 1000000
/-! AM2: what the abstract machine's states say of the slots and the heap. -/
namespace AM
open PySem PySem.Spec PyProof.Rows L2
abbrev St := L2.St

/-! ### data in the heap -/
/-- a list that nothing changes any more -/
def SqF (_ : PySem.W.Frag) (H : Hp) (a : Addr) (xs : List V) : Prop := ∃ o, H a = some (.frz o (.lst xs))
theorem SqF.sq {K : PySem.W.Frag} {H : Hp} {a : Addr} {xs : List V} (h : SqF K H a xs) : SqL K H a xs := by
  obtain ⟨o, h⟩ := h
  exact .inl (.inr ⟨o, h⟩)
/-- .. or one of the written part (the script may be one) -/
def SqS (K : PySem.W.Frag) (H : Hp) (a : Addr) (xs : List V) : Prop := SqF K H a xs ∨
    ∃ (o : Obj) (its : Array Value) (n : Nat), K.lookup a = some o ∧ o.cls = .type "list" ∧ o.dict = none ∧ o.data = .seq its n ∧ its.size ≤ sizeLine ∧ Vals xs its.toList
theorem SqS.sq {K : PySem.W.Frag} {H : Hp} {a : Addr} {xs : List V} (h : SqS K H a xs) : SqL K H a xs := by
  rcases h with h | h
  · exact h.sq
  · exact .inr h
mutual
inductive Rf (K : PySem.W.Frag) (H : Hp) : V → PyData → Prop
  | non : Rf K H .non .none
  | bl (b : Bool) : Rf K H (.bl b) (.bool b)
  | int (i : Int) : Rf K H (.int i) (.int i)
  | str (x : Str) : Rf K H (.str x) (.str x)
  | lst {a : Addr} {xs : List V} {ds : List PyData} : SqF K H a xs → Rfs K H xs ds → Rf K H (.ref a) (.list ds)
  | tup {a : Addr} {xs : List V} {ds : List PyData} : SqT K H a xs → Rfs K H xs ds → Rf K H (.ref a) (.tuple ds)
  | scr {a : Addr} {xs : List V} {ds : List PyData} : SqS K H a xs → Rfs K H xs ds → Rf K H (.ref a) (.dict [(.list ds, .none)])
inductive Rfs (K : PySem.W.Frag) (H : Hp) : List V → List PyData → Prop
  | nil : Rfs K H [] []
  | cons {v : V} {vs : List V} {d : PyData} {ds : List PyData} : Rf K H v d → Rfs K H vs ds → Rfs K H (v :: vs) (d :: ds)
end
/-- all but lists that may change and tables stays -/
def Ext (H H' : Hp) : Prop := ∀ b o, H b = some o → (∀ xs, o ≠ .lst xs) → (∀ ps, o ≠ .tbl ps) → H' b = some o
theorem Ext.refl (H : Hp) : Ext H H := fun _ _ h _ _ => h
theorem Ext.trans {H H1 H2 : Hp} (a : Ext H H1) (b : Ext H1 H2) : Ext H H2 := fun c o h n m => b c o (a c o h n m) n m
theorem Ext.same {H H' : Hp} (e : Same H H') : Ext H H' := fun b o h _ _ => e b o h
theorem SqF.ext {K : PySem.W.Frag} {H H' : Hp} {a : Addr} {xs : List V} (e : Ext H H') (h : SqF K H a xs) : SqF K H' a xs := by
  obtain ⟨o, h⟩ := h
  exact ⟨o, e _ _ h (fun _ z => by cases z) (fun _ z => by cases z)⟩
theorem SqS.ext {K : PySem.W.Frag} {H H' : Hp} {a : Addr} {xs : List V} (e : Ext H H') (h : SqS K H a xs) : SqS K H' a xs := by
  rcases h with h | h
  · exact .inl (h.ext e)
  · exact .inr h
theorem SqT.ext {K : PySem.W.Frag} {H H' : Hp} {a : Addr} {xs : List V} (e : Ext H H') (h : SqT K H a xs) : SqT K H' a xs := by
  rcases h with (h | ⟨o, h⟩) | h
  · exact .inl (.inl (e _ _ h (fun _ z => by cases z) (fun _ z => by cases z)))
  · exact .inl (.inr ⟨o, e _ _ h (fun _ z => by cases z) (fun _ z => by cases z)⟩)
  · exact .inr h
section
variable {K : PySem.W.Frag} {H H' : Hp}
mutual
theorem Rf.ext (e : Ext H H') : ∀ (d : PyData) (v : V), Rf K H v d → Rf K H' v d
  | .none, _, h => by cases h; exact .non
  | .bool b, _, h => by cases h; exact .bl b
  | .int i, _, h => by cases h; exact .int i
  | .str x, _, h => by cases h; exact .str x
  | .list ds, _, h => by
    cases h with
    | lst hs hr => exact .lst (hs.ext e) (Rfs.ext e ds _ hr)
  | .tuple ds, _, h => by
    cases h with
    | tup hs hr => exact .tup (SqT.ext e hs) (Rfs.ext e ds _ hr)
  | .dict [(.list ds, _)], _, h => by
    cases h with
    | scr hs hr => exact .scr (hs.ext e) (Rfs.ext e ds _ hr)
  | .dict [], _, h => by cases h
  | .dict [(.none, _)], _, h => by cases h
  | .dict [(.bool _, _)], _, h => by cases h
  | .dict [(.int _, _)], _, h => by cases h
  | .dict [(.str _, _)], _, h => by cases h
  | .dict [(.tuple _, _)], _, h => by cases h
  | .dict [(.dict _, _)], _, h => by cases h
  | .dict (_ :: _ :: _), _, h => by cases h
theorem Rfs.ext (e : Ext H H') : ∀ (ds : List PyData) (vs : List V), Rfs K H vs ds → Rfs K H' vs ds
  | [], _, h => by cases h; exact .nil
  | d :: ds, _, h => by
    cases h with
    | cons h1 h2 => exact .cons (Rf.ext e d _ h1) (Rfs.ext e ds _ h2)
end
mutual
theorem Rf.dp : ∀ (d : PyData) (v : V), d.canLay0 = true → Rf K H v d → Dp K H v d
  | .none, _, _, h => by cases h; exact .non
  | .bool b, _, _, h => by cases h; exact .bl b
  | .int i, _, _, h => by cases h; exact .int i
  | .str x, _, _, h => by cases h; exact .str x
  | .list ds, _, z, h => by
    cases h with
    | lst hs hr => exact .lst hs.sq (Rfs.dp ds _ (by simpa only [PyData.canLay0] using z) hr)
  | .tuple ds, _, z, h => by
    cases h with
    | tup hs hr => exact .tup hs (Rfs.dp ds _ (by simpa only [PyData.canLay0] using z) hr)
  | .dict _, _, z, _ => by simp only [PyData.canLay0] at z; cases z
theorem Rfs.dp : ∀ (ds : List PyData) (vs : List V), PyData.canLayAll0 ds = true → Rfs K H vs ds → DpAll K H vs ds
  | [], _, _, h => by cases h; exact .nil
  | d :: ds, _, z, h => by
    simp only [PyData.canLayAll0, Bool.and_eq_true] at z
    cases h with
    | cons h1 h2 => exact .cons (Rf.dp d _ z.1 h1) (Rfs.dp ds _ z.2 h2)
end
theorem Rfs.length : ∀ {ds : List PyData} {vs : List V}, Rfs K H vs ds → vs.length = ds.length
  | [], _, h => by cases h; rfl
  | d :: ds, _, h => by
    cases h with
    | cons h1 h2 => simp [Rfs.length h2]
theorem Rfs.append : ∀ {ds es : List PyData} {vs ws : List V}, Rfs K H vs ds → Rfs K H ws es → Rfs K H (vs ++ ws) (ds ++ es)
  | [], _, _, _, h, k => by cases h; exact k
  | d :: ds, _, _, _, h, k => by
    cases h with
    | cons h1 h2 => exact .cons h1 (Rfs.append h2 k)
theorem Rfs.take : ∀ {ds : List PyData} {vs : List V} (n : Nat), Rfs K H vs ds → Rfs K H (vs.take n) (ds.take n)
  | [], _, n, h => by cases h; simp; exact .nil
  | d :: ds, _, 0, h => by simp; exact .nil
  | d :: ds, _, n + 1, h => by
    cases h with
    | cons h1 h2 => exact .cons h1 (Rfs.take n h2)
theorem Rfs.drop : ∀ {ds : List PyData} {vs : List V} (n : Nat), Rfs K H vs ds → Rfs K H (vs.drop n) (ds.drop n)
  | [], _, n, h => by cases h; simp; exact .nil
  | d :: ds, _, 0, h => h
  | d :: ds, _, n + 1, h => by
    cases h with
    | cons h1 h2 => exact Rfs.drop n h2
theorem Rfs.reverse {ds : List PyData} {vs : List V} (h : Rfs K H vs ds) : Rfs K H vs.reverse ds.reverse := by
  induction ds generalizing vs with
  | nil => cases h; exact .nil
  | cons d ds ih =>
    cases h with
    | cons h1 h2 =>
      rw [List.reverse_cons, List.reverse_cons]
      exact (ih h2).append (.cons h1 .nil)
theorem Rfs.dropLast {ds : List PyData} {vs : List V} (h : Rfs K H vs ds) : Rfs K H vs.dropLast ds.dropLast := by
  rw [List.dropLast_eq_take, List.dropLast_eq_take, h.length]
  exact h.take _
theorem Rfs.rep {ds : List PyData} {vs : List V} (h : Rfs K H vs ds) : ∀ k : Nat, Rfs K H (List.replicate k vs).flatten (List.replicate k ds).flatten
  | 0 => .nil
  | k + 1 => by
    rw [List.replicate_succ, List.replicate_succ, List.flatten_cons, List.flatten_cons]
    exact h.append (Rfs.rep h k)
theorem Rfs.get : ∀ {ds : List PyData} {vs : List V} {i : Nat} {d : PyData}, Rfs K H vs ds → ds[i]? = some d → ∃ v, vs[i]? = some v ∧ Rf K H v d
  | [], _, _, _, _, e => by simp at e
  | d :: ds, _, 0, _, h, e => by
    cases h with
    | cons h1 h2 => simp at e; subst e; exact ⟨_, rfl, h1⟩
  | d :: ds, _, i + 1, _, h, e => by
    cases h with
    | cons h1 h2 =>
      obtain ⟨v, a, b⟩ := Rfs.get (i := i) h2 (by simpa using e)
      exact ⟨v, by simpa using a, b⟩
theorem Rfs.set : ∀ {ds : List PyData} {vs : List V} (i : Nat) {d : PyData} {v : V}, Rf K H v d → Rfs K H vs ds → Rfs K H (vs.set i v) (ds.set i d)
  | [], _, _, _, _, _, h => by cases h; exact .nil
  | d :: ds, _, 0, _, _, r, h => by
    cases h with
    | cons h1 h2 => exact .cons r h2
  | d :: ds, _, i + 1, _, _, r, h => by
    cases h with
    | cons h1 h2 => exact .cons h1 (Rfs.set i r h2)
theorem Rfs.atI {ds : List PyData} {vs : List V} {i : Int} {d : PyData} (h : Rfs K H vs ds) (e : L2.atI ds i = some d) : ∃ v, L2.atI vs i = some v ∧ Rf K H v d := by
  unfold L2.atI at e ⊢
  rw [h.length]
  cases q : ixN ds.length i with
  | none => rw [q] at e; cases e
  | some j =>
    rw [q] at e
    simp only [Option.bind_some] at e ⊢
    exact h.get e
theorem Rfs.isEmpty {ds : List PyData} {vs : List V} (h : Rfs K H vs ds) : vs.isEmpty = ds.isEmpty := by
  cases ds with
  | nil => cases h; rfl
  | cons d ds => cases h; rfl
theorem Rfs.cut {ds : List PyData} {vs : List V} (h : Rfs K H vs ds) (lo hi : Option Int) : Rfs K H (cutV vs lo hi) (cutD ds lo hi) := by
  unfold cutV cutD
  rw [h.length]
  exact (h.drop _).take _
end

/-- what can be read at a value: data, or a list that may still change -/
def RD (K : PySem.W.Frag) (H : Hp) (v : V) (d : PyData) : Prop := Rf K H v d ∨ ∃ (a : Addr) (vs : List V) (ds : List PyData), v = .ref a ∧ d = .list ds ∧ H a = some (.lst vs) ∧ Rfs K H vs ds
theorem RD.dp {K : PySem.W.Frag} {H : Hp} {v : V} {d : PyData} (h : RD K H v d) (z : d.canLay0 = true) : Dp K H v d := by
  rcases h with h | ⟨a, vs, ds, rfl, rfl, h, r⟩
  · exact Rf.dp d v z h
  · exact .lst (SqL.of h) (Rfs.dp ds vs (by simpa only [PyData.canLay0] using z) r)
theorem RD.rd {K : PySem.W.Frag} {H : Hp} {v : V} {ds : List PyData} (h : RD K H v (.list ds)) : ∃ a vs, v = .ref a ∧ Rd H a (.lst vs) ∧ Rfs K H vs ds := by
  rcases h with h | ⟨a, vs, ds', rfl, e, h, r⟩
  · cases h with
    | lst hs hr =>
      obtain ⟨o, hs⟩ := hs
      exact ⟨_, _, rfl, .inr ⟨o, hs⟩, hr⟩
  · cases e
    exact ⟨a, vs, rfl, .inl h, r⟩
theorem RD.scr {K : PySem.W.Frag} {H : Hp} {v : V} {ds : List PyData} (h : RD K H v (.dict [(.list ds, .none)])) : ∃ a vs, v = .ref a ∧ SqL K H a vs ∧ Rfs K H vs ds := by
  rcases h with h | ⟨a, vs, ds', rfl, e, h, r⟩
  · cases h with
    | scr hs hr => exact ⟨_, _, rfl, hs.sq, hr⟩
  · cases e
theorem RD.list {K : PySem.W.Frag} {H : Hp} {v : V} {ds : List PyData} (h : RD K H v (.list ds)) : ∃ a vs, v = .ref a ∧ SqL K H a vs ∧ Rfs K H vs ds := by
  rcases h with h | ⟨a, vs, ds', rfl, e, h, r⟩
  · cases h with
    | lst hs hr => exact ⟨_, _, rfl, hs.sq, hr⟩
  · cases e
    exact ⟨a, vs, rfl, SqL.of h, r⟩
theorem RD.tup {K : PySem.W.Frag} {H : Hp} {v : V} {ds : List PyData} (h : RD K H v (.tuple ds)) : ∃ a vs, v = .ref a ∧ SqT K H a vs ∧ Rfs K H vs ds := by
  rcases h with h | ⟨a, vs, ds', rfl, e, h, r⟩
  · cases h with
    | tup hs hr => exact ⟨_, _, rfl, hs, hr⟩
  · cases e
theorem RD.int {K : PySem.W.Frag} {H : Hp} {v : V} {i : Int} (h : RD K H v (.int i)) : v = .int i := by
  rcases h with h | ⟨a, vs, ds', rfl, e, h, r⟩
  · cases h; rfl
  · cases e
theorem RD.bl {K : PySem.W.Frag} {H : Hp} {v : V} {i : Bool} (h : RD K H v (.bool i)) : v = .bl i := by
  rcases h with h | ⟨a, vs, ds', rfl, e, h, r⟩
  · cases h; rfl
  · cases e
theorem RD.str {K : PySem.W.Frag} {H : Hp} {v : V} {i : Str} (h : RD K H v (.str i)) : v = .str i := by
  rcases h with h | ⟨a, vs, ds', rfl, e, h, r⟩
  · cases h; rfl
  · cases e
theorem RD.non {K : PySem.W.Frag} {H : Hp} {v : V} (h : RD K H v .none) : v = .non := by
  rcases h with h | ⟨a, vs, ds', rfl, e, h, r⟩
  · cases h; rfl
  · cases e

/-! ### states -/
structure Cn where
  K : PySem.W.Frag
  T : List (Addr × Str)
  cad : Nat → Addr
/-- at a def's entry: the heap, the lent lists by slot, the pinned exceptions -/
structure Gd where
  Hin : Hp
  io : List (Nat × Addr)
  pn : List (Addr × Obj)
def RSlot (C : Cn) (G : Gd) (H : Hp) (i : Nat) (v : V) : SV → Prop
  | .val d => Rf C.K H v d
  | .own b xs => ∃ a vs, v = .ref a ∧ H a = some (.lst vs) ∧ Rfs C.K H vs xs ∧ if b = true then (i, a) ∈ G.io else G.Hin a = none
  | .exc c w => ∃ a d oe vw, v = .ref a ∧ (a, oe) ∈ G.pn ∧ Zc (.ref (C.cad c)) (some d) oe ∧ (∃ vs, oe.data = .fields vs) ∧ H d = some (.xd [(("what" : Str), vw)]) ∧ Rf C.K H vw w
structure Sim (C : Cn) (G : Gd) (s : AS) (σ : St) (H : Hp) : Prop where
  len : s.length = σ.length
  slot : ∀ i sv, sl s i = some sv → ∃ v, σ[i]? = some (some v) ∧ RSlot C G H i v sv
  dist : ∀ i j b b' xs ys, sl s i = some (.own b xs) → sl s j = some (.own b' ys) → σ[i]? = σ[j]? → i = j
  keep : ∀ a o, G.Hin a = some o → a ∉ G.io.map (·.2) → (∀ ps, o ≠ .tbl ps) → H a = some o
  there : ∀ a o, G.Hin a = some o → ∃ o', H a = some o' ∧ ((∀ ps, o ≠ .tbl ps) → ∀ ps, o' ≠ .tbl ps)
  tabs : LamX.Tabs C.T H
section
variable {C : Cn} {G : Gd} {s : AS} {σ : St} {H H' : Hp} {i : Nat} {v : V} {sv : SV}
theorem RSlot.same (e : Same H H') (h : RSlot C G H i v sv) : RSlot C G H' i v sv := by
  cases sv with
  | val d => exact Rf.ext (.same e) d v h
  | own b xs =>
    obtain ⟨a, vs, rfl, h1, h2, h3⟩ := h
    exact ⟨a, vs, rfl, e _ _ h1, h2.ext (.same e), h3⟩
  | exc c w =>
    obtain ⟨a, d, oe, vw, rfl, h1, h2, h3, h4, h5⟩ := h
    exact ⟨a, d, oe, vw, rfl, h1, h2, h3, e _ _ h4, h5.ext (.same e)⟩
theorem Sim.same (S : Sim C G s σ H) (e : Same H H') : Sim C G s σ H' :=
  ⟨S.len, fun i sv q => let ⟨v, a, b⟩ := S.slot i sv q; ⟨v, a, b.same e⟩, S.dist, fun a o q n m => e _ _ (S.keep a o q n m), fun a o q => let ⟨o', z, n⟩ := S.there a o q; ⟨o', e _ _ z, n⟩, S.tabs.ext e⟩
theorem Sim.fresh (S : Sim C G s σ H) {a : Addr} (h : H a = none) : G.Hin a = none := by
  cases q : G.Hin a with
  | none => rfl
  | some o =>
    obtain ⟨o', z, _⟩ := S.there a o q
    rw [h] at z; cases z
theorem same_upd {a : Addr} {o : HO} (h : H a = none) : Same H (upd H a o) := fun b u q => by rw [upd_ne (ne_of_none q h)]; exact q

theorem sl_set_self {s : AS} {i : Nat} {o : Option SV} (h : i < s.length) : sl (s.set i o) i = o := by
  unfold sl
  rw [List.getElem?_set_self h]
  rfl
theorem sl_set_ne {s : AS} {i j : Nat} {o : Option SV} (h : i ≠ j) : sl (s.set i o) j = sl s j := by
  unfold sl
  rw [List.getElem?_set_ne h]
theorem sl_lt {s : AS} {i : Nat} {sv : SV} (h : sl s i = some sv) : i < s.length := by
  unfold sl at h
  cases q : s[i]? with
  | none => rw [q] at h; cases h
  | some o => exact (List.getElem?_eq_some_iff.mp q).1
theorem sl_set {s : AS} {i j : Nat} {o : Option SV} {sv : SV} (h : sl (s.set i o) j = some sv) : (j = i ∧ o = some sv ∧ i < s.length) ∨ (j ≠ i ∧ sl s j = some sv) := by
  by_cases e : i = j
  · subst e
    by_cases hl : i < s.length
    · rw [sl_set_self hl] at h
      exact .inl ⟨rfl, h, hl⟩
    · unfold sl at h
      rw [List.getElem?_eq_none (by simpa using hl)] at h
      cases h
  · rw [sl_set_ne e] at h
    exact .inr ⟨fun z => e z.symm, h⟩
/-- the same slots, the content of an owned list changed -/
theorem ne_own {a : Addr} {vs : List V} {b : Addr} {o : HO} (ha : H a = some (.lst vs)) (hb : H b = some o) (n : ∀ xs, o ≠ .lst xs) : b ≠ a := fun z => by
  rw [z, ha] at hb
  exact n vs (Option.some.inj hb).symm
theorem ext_upd {a : Addr} {vs : List V} {o : HO} (ha : H a = some (.lst vs)) : Ext H (upd H a o) := fun b u q n _ => by
  rw [upd_ne (ne_own ha q n)]; exact q
theorem tabs_upd {T : List (Addr × Str)} {a : Addr} {vs : List V} {o : HO} (t : LamX.Tabs T H) (ha : H a = some (.lst vs)) : LamX.Tabs T (upd H a o) := fun p hp => by
  obtain ⟨ps, h1, h2, h3⟩ := t p hp
  refine ⟨ps, ?_, h2, fun pos cv hc => ?_⟩
  · rw [upd_ne (ne_own ha h1 (fun xs z => by cases z))]; exact h1
  · obtain ⟨c, e1, e2⟩ := h3 pos cv hc
    exact ⟨c, e1, by rw [upd_ne (ne_own ha e2 (fun xs z => by unfold LamX.CodeO at z; cases z))]; exact e2⟩
theorem rslot_other {a : Addr} {vs : List V} {o : HO} (ha : H a = some (.lst vs)) (n : ∀ b xs, sv = .own b xs → v ≠ .ref a) (h : RSlot C G H i v sv) : RSlot C G (upd H a o) i v sv := by
  have e : Ext H (upd H a o) := ext_upd ha
  cases sv with
  | val d => exact Rf.ext e d v h
  | own b xs =>
    obtain ⟨c, ws, rfl, h1, h2, h3⟩ := h
    have hne : c ≠ a := fun z => n b xs rfl (by rw [z])
    exact ⟨c, ws, rfl, by rw [upd_ne hne]; exact h1, h2.ext e, h3⟩
  | exc c w =>
    obtain ⟨x, d, oe, vw, rfl, h1, h2, h3, h4, h5⟩ := h
    exact ⟨x, d, oe, vw, rfl, h1, h2, h3, e _ _ h4 (fun _ z => by cases z) (fun _ z => by cases z), h5.ext e⟩
/-- the frame of a def: what the caller had is kept where an address that is ours is written -/
theorem keep_upd (S : Sim C G s σ H) {a : Addr} {o : HO} (hn : G.Hin a = none ∨ a ∈ G.io.map (·.2)) : ∀ b u, G.Hin b = some u → b ∉ G.io.map (·.2) → (∀ ps, u ≠ .tbl ps) → upd H a o b = some u := fun b u q n m => by
  have hne : b ≠ a := fun z => by
    subst z
    rcases hn with hn | hn
    · rw [hn] at q; cases q
    · exact n hn
  rw [upd_ne hne]
  exact S.keep b u q n m
theorem there_upd (S : Sim C G s σ H) {a : Addr} {o : HO} (hn : ∀ ps, o ≠ .tbl ps) : ∀ b u, G.Hin b = some u → ∃ o', upd H a o b = some o' ∧ ((∀ ps, u ≠ .tbl ps) → ∀ ps, o' ≠ .tbl ps) := fun b u q => by
  by_cases hb : b = a
  · subst hb; exact ⟨_, upd_same, fun _ => hn⟩
  · obtain ⟨o', z, n⟩ := S.there b u q
    exact ⟨o', by rw [upd_ne hb]; exact z, n⟩
theorem own_ours {b : Bool} {a : Addr} (h : if b = true then (i, a) ∈ G.io else G.Hin a = none) : G.Hin a = none ∨ a ∈ G.io.map (·.2) := by
  cases b with
  | true => exact .inr (List.mem_map.mpr ⟨_, by simpa using h, rfl⟩)
  | false => exact .inl (by simpa using h)
/-- an owned list is written -/
theorem Sim.write (S : Sim C G s σ H) {b : Bool} {xs ys : List PyData} (h : sl s i = some (.own b xs)) :
    ∃ a vs, σ[i]? = some (some (.ref a)) ∧ H a = some (.lst vs) ∧ Rfs C.K H vs xs ∧ ∀ ws, Rfs C.K H ws ys → Sim C G (s.set i (some (.own b ys))) σ (upd H a (.lst ws)) ∧ Ext H (upd H a (.lst ws)) := by
  obtain ⟨v, e1, a, vs, rfl, ha, hr, hb⟩ := S.slot i _ h
  refine ⟨a, vs, e1, ha, hr, fun ws hw => ?_⟩
  have e : Ext H (upd H a (.lst ws)) := ext_upd ha
  refine ⟨⟨by rw [List.length_set]; exact S.len, fun j sv q => ?_, fun j k b1 b2 x1 x2 q1 q2 q3 => ?_, keep_upd S (own_ours hb), there_upd S (fun _ z => by cases z), tabs_upd S.tabs ha⟩, e⟩
  · rcases sl_set q with ⟨rfl, q, _⟩ | ⟨hne, q⟩
    · cases q
      exact ⟨_, e1, a, ws, rfl, upd_same, hw.ext e, hb⟩
    · obtain ⟨v, z1, z2⟩ := S.slot j sv q
      refine ⟨v, z1, rslot_other ha (fun b' xs' hs z => ?_) z2⟩
      subst hs; subst z
      exact hne (S.dist j i _ _ _ _ q h (by rw [z1, e1]))
  · have old : ∀ {j : Nat} {b1 : Bool} {x1 : List PyData}, sl (s.set i (some (.own b ys))) j = some (.own b1 x1) → ∃ b2 x2, sl s j = some (.own b2 x2) := fun {j b1 x1} q => by
      rcases sl_set q with ⟨rfl, _, _⟩ | ⟨_, q⟩
      · exact ⟨_, _, h⟩
      · exact ⟨_, _, q⟩
    obtain ⟨_, _, o1⟩ := old q1
    obtain ⟨_, _, o2⟩ := old q2
    exact S.dist j k _ _ _ _ o1 o2 q3
/-- an owned list is owned no more -/
theorem Sim.freeze (S : Sim C G s σ H) {xs : List PyData} (h : sl s i = some (.own false xs)) :
    ∃ a vs, σ[i]? = some (some (.ref a)) ∧ H a = some (.lst vs) ∧ ∀ o, Sim C G (s.set i (some (.val (.list xs)))) σ (upd H a (.frz o (.lst vs))) ∧ Ext H (upd H a (.frz o (.lst vs))) ∧ Rf C.K (upd H a (.frz o (.lst vs))) (.ref a) (.list xs) := by
  obtain ⟨v, e1, a, vs, rfl, ha, hr, hb⟩ := S.slot i _ h
  refine ⟨a, vs, e1, ha, fun o => ?_⟩
  have e : Ext H (upd H a (.frz o (.lst vs))) := ext_upd ha
  have r : Rf C.K (upd H a (.frz o (.lst vs))) (.ref a) (.list xs) := .lst ⟨o, upd_same⟩ (hr.ext e)
  refine ⟨⟨by rw [List.length_set]; exact S.len, fun j sv q => ?_, fun j k b1 b2 x1 x2 q1 q2 q3 => ?_, keep_upd S (own_ours hb), there_upd S (fun _ z => by cases z), tabs_upd S.tabs ha⟩, e, r⟩
  · rcases sl_set q with ⟨rfl, q, _⟩ | ⟨hne, q⟩
    · cases q
      exact ⟨_, e1, r⟩
    · obtain ⟨v, z1, z2⟩ := S.slot j sv q
      refine ⟨v, z1, rslot_other ha (fun b' xs' hs z => ?_) z2⟩
      subst hs; subst z
      exact hne (S.dist j i _ _ _ _ q h (by rw [z1, e1]))
  · rcases sl_set q1 with ⟨_, q1, _⟩ | ⟨_, q1⟩
    · cases q1
    · rcases sl_set q2 with ⟨_, q2, _⟩ | ⟨_, q2⟩
      · cases q2
      · exact S.dist j k _ _ _ _ q1 q2 q3
/-- a slot is stored: a value -/
theorem Sim.setVal (S : Sim C G s σ H) {d : PyData} (r : Rf C.K H v d) : Sim C G (s.set i (some (.val d))) (σ.set i (some v)) H := by
  refine ⟨by simp [S.len], fun j sv q => ?_, fun j k b1 b2 x1 x2 q1 q2 q3 => ?_, S.keep, S.there, S.tabs⟩
  · rcases sl_set q with ⟨rfl, q, hl⟩ | ⟨hne, q⟩
    · cases q
      exact ⟨v, List.getElem?_set_self (by rw [← S.len]; exact hl), r⟩
    · obtain ⟨v', z1, z2⟩ := S.slot j sv q
      exact ⟨v', by rw [List.getElem?_set_ne (Ne.symm hne)]; exact z1, z2⟩
  · rcases sl_set q1 with ⟨_, q1, _⟩ | ⟨n1, q1⟩
    · cases q1
    · rcases sl_set q2 with ⟨_, q2, _⟩ | ⟨n2, q2⟩
      · cases q2
      · rw [List.getElem?_set_ne (Ne.symm n1), List.getElem?_set_ne (Ne.symm n2)] at q3
        exact S.dist j k _ _ _ _ q1 q2 q3
/-- no slot owns the list at a -/
def Free (s : AS) (σ : St) (a : Addr) : Prop := ∀ j b ys, sl s j = some (.own b ys) → σ[j]? ≠ some (some (.ref a))
/-- .. a new list -/
theorem Sim.setNew (S : Sim C G s σ H) {a : Addr} {vs : List V} {xs : List PyData} (ha : H a = some (.lst vs)) (r : Rfs C.K H vs xs) (hn : G.Hin a = none) (fr : Free s σ a) : Sim C G (s.set i (some (.own false xs))) (σ.set i (some (.ref a))) H := by
  refine ⟨by simp [S.len], fun j sv q => ?_, fun j k b1 b2 x1 x2 q1 q2 q3 => ?_, S.keep, S.there, S.tabs⟩
  · rcases sl_set q with ⟨rfl, q, hl⟩ | ⟨hne, q⟩
    · cases q
      exact ⟨_, List.getElem?_set_self (by rw [← S.len]; exact hl), a, vs, rfl, ha, r, by simpa using hn⟩
    · obtain ⟨v', z1, z2⟩ := S.slot j sv q
      exact ⟨v', by rw [List.getElem?_set_ne (Ne.symm hne)]; exact z1, z2⟩
  · rcases sl_set q1 with ⟨e1, _, l1⟩ | ⟨n1, q1⟩
    · rcases sl_set q2 with ⟨e2, _, _⟩ | ⟨n2, p2⟩
      · rw [e1, e2]
      · rw [e1, List.getElem?_set_self (by rw [← S.len]; exact l1), List.getElem?_set_ne (Ne.symm n2)] at q3
        exact absurd q3.symm (fr k _ _ p2)
    · skip
      rcases sl_set q2 with ⟨e2, _, l2⟩ | ⟨n2, q2⟩
      · rw [e2, List.getElem?_set_self (by rw [← S.len]; exact l2), List.getElem?_set_ne (Ne.symm n1)] at q3
        exact absurd q3 (fr j _ _ q1)
      · rw [List.getElem?_set_ne (Ne.symm n1), List.getElem?_set_ne (Ne.symm n2)] at q3
        exact S.dist j k _ _ _ _ q1 q2 q3
/-- a slot is emptied (the names of a block; behind a suite) -/
theorem Sim.drop (S : Sim C G s σ H) (i : Nat) : Sim C G (s.set i none) σ H := by
  refine ⟨by simp [S.len], fun j sv q => ?_, fun j k b1 b2 x1 x2 q1 q2 q3 => ?_, S.keep, S.there, S.tabs⟩
  · rcases sl_set q with ⟨rfl, q, hl⟩ | ⟨hne, q⟩
    · cases q
    · exact S.slot j sv q
  · rcases sl_set q1 with ⟨_, q1, _⟩ | ⟨n1, q1⟩
    · cases q1
    · rcases sl_set q2 with ⟨_, q2, _⟩ | ⟨n2, q2⟩
      · cases q2
      · exact S.dist j k _ _ _ _ q1 q2 q3
theorem Sim.drop2 (S : Sim C G s σ H) (i : Nat) (o : Option V) : Sim C G (s.set i none) (σ.set i o) H := by
  refine ⟨by simp [S.len], fun j sv q => ?_, fun j k b1 b2 x1 x2 q1 q2 q3 => ?_, S.keep, S.there, S.tabs⟩
  · rcases sl_set q with ⟨rfl, q, hl⟩ | ⟨hne, q⟩
    · cases q
    · obtain ⟨v', z1, z2⟩ := S.slot j sv q
      exact ⟨v', by rw [List.getElem?_set_ne (Ne.symm hne)]; exact z1, z2⟩
  · rcases sl_set q1 with ⟨_, q1, _⟩ | ⟨n1, q1⟩
    · cases q1
    · rcases sl_set q2 with ⟨_, q2, _⟩ | ⟨n2, q2⟩
      · cases q2
      · rw [List.getElem?_set_ne (Ne.symm n1), List.getElem?_set_ne (Ne.symm n2)] at q3
        exact S.dist j k _ _ _ _ q1 q2 q3
end

/-! ### an abstract value, at a value -/
/-- what lasts: data, a slot's list -/
def RN (C : Cn) (σ : St) (H : Hp) (v : V) : AV → Prop
  | .val d => Rf C.K H v d
  | .bor i => σ[i]? = some (some v)
  | .new _ => False
def RA (C : Cn) (G : Gd) (s : AS) (σ : St) (H : Hp) (v : V) : AV → Prop
  | .val d => Rf C.K H v d
  | .bor i => σ[i]? = some (some v)
  | .new xs => ∃ a vs, v = .ref a ∧ H a = some (.lst vs) ∧ Rfs C.K H vs xs ∧ G.Hin a = none ∧ Free s σ a
def RNs (C : Cn) (σ : St) (H : Hp) : List V → List AV → Prop
  | [], [] => True
  | v :: vs, a :: as => RN C σ H v a ∧ RNs C σ H vs as
  | _, _ => False
section
variable {C : Cn} {G : Gd} {s : AS} {σ : St} {H H' : Hp} {v : V} {a : AV}
theorem RN.ext (e : Ext H H') (h : RN C σ H v a) : RN C σ H' v a := by
  cases a with
  | val d => exact Rf.ext e d v h
  | bor i => exact h
  | new xs => exact h
theorem RNs.ext (e : Ext H H') : ∀ {vs : List V} {as : List AV}, RNs C σ H vs as → RNs C σ H' vs as
  | [], [], h => h
  | v :: vs, a :: as, h => ⟨h.1.ext e, RNs.ext e h.2⟩
  | [], _ :: _, h => h
  | _ :: _, [], h => h
theorem rd_of (S : Sim C G s σ H) {d : PyData} (h : RN C σ H v a) (e : rdo s a = some d) : RD C.K H v d := by
  cases a with
  | val d' => cases e; exact .inl h
  | bor i =>
    have h : σ[i]? = some (some v) := h
    unfold rdo at e
    dsimp only at e
    cases q : sl s i with
    | none => rw [q] at e; cases e
    | some sv =>
      rw [q] at e
      obtain ⟨v', z1, z2⟩ := S.slot i sv q
      rw [h] at z1
      cases z1
      cases sv with
      | val d' => cases e; exact .inl z2
      | own b xs =>
        cases e
        obtain ⟨x, vs, rfl, ha, hr, _⟩ := z2
        exact .inr ⟨x, vs, xs, rfl, rfl, ha, hr⟩
      | exc c w => cases e
  | new xs => exact h.elim
end

/-! ### runs -/
abbrev Wish := WX
/-- an outcome is as wished: k of what is given, the state and the heap; W of an error -/
def Run {α : Type} (C : Cn) (G : Gd) (W : Wish) (σ : St) (H : Hp) (r : Out α) (k : α → AS → Hp → Prop) : Prop := match r with
  | .ok a s => ∀ H', Ext H H' → Sim C G s σ H' → k a s H'
  | .err c w s => ∀ d vw H', Ext H H' → Sim C G s σ H' → H' d = some (.xd [(("what" : Str), vw)]) → Rf C.K H' vw w → W (.ref (C.cad c)) (some d) σ H'
  | .bad => False
section
variable {C : Cn} {G : Gd} {W : Wish} {σ : St} {H H1 : Hp} {α β : Type}
theorem Run.imp {r : Out α} {k k' : α → AS → Hp → Prop} (h : Run C G W σ H r k) (i : ∀ a s H', Ext H H' → Sim C G s σ H' → k a s H' → k' a s H') : Run C G W σ H r k' := by
  cases r with
  | ok a s => exact fun H' e S => i a s H' e S (h H' e S)
  | err c w s => exact h
  | bad => exact h
theorem Run.from {r : Out α} {k : α → AS → Hp → Prop} (h : Run C G W σ H r k) (e : Ext H H1) : Run C G W σ H1 r k := by
  cases r with
  | ok a s => exact fun H' e' S => h H' (e.trans e') S
  | err c w s => exact fun d vw H' e' S => h d vw H' (e.trans e') S
  | bad => exact h
theorem Run.bd {r : Out α} {f : α → AS → Out β} {k : β → AS → Hp → Prop} (h : Run C G W σ H (r.bd f) k) : Run C G W σ H r fun a s H1 => Run C G W σ H1 (f a s) k := by
  cases r with
  | ok a s => exact fun H1 e _ => Run.from (show Run C G W σ H (f a s) k from h) e
  | err c w s => exact h
  | bad => exact h
theorem Run.bnd {m : M α} {f : α → M β} {s : AS} {k : β → AS → Hp → Prop} (h : Run C G W σ H (AM.bnd m f s) k) : Run C G W σ H (m s) fun a s H1 => Run C G W σ H1 (f a s) k := Run.bd h
/-- where nothing happens -/
theorem Run.now {a : α} {s : AS} {k : α → AS → Hp → Prop} (h : Run C G W σ H (.ok a s) k) (S : Sim C G s σ H) : k a s H := h H (Ext.refl H) S
theorem Run.lift {o : Option α} {f : α → M β} {s : AS} {k : β → AS → Hp → Prop} (h : Run C G W σ H (AM.bnd (AM.lift o) f s) k) : ∃ a, o = some a ∧ Run C G W σ H (f a s) k := by
  cases o with
  | none => exact False.elim h
  | some a => exact ⟨a, rfl, h⟩
theorem Run.lift1 {o : Option α} {s : AS} {k : α → AS → Hp → Prop} (h : Run C G W σ H (AM.lift o s) k) : ∃ a, o = some a ∧ Run C G W σ H (.ok a s) k := by
  cases o with
  | none => exact False.elim h
  | some a => exact ⟨a, rfl, h⟩
theorem Run.rd {a : AV} {f : PyData → M β} {s : AS} {v : V} {k : β → AS → Hp → Prop} (h : Run C G W σ H (AM.bnd (AM.rd a) f s) k) (S : Sim C G s σ H) (r : RN C σ H v a) : ∃ d, RD C.K H v d ∧ Run C G W σ H (f d s) k := by
  unfold AM.bnd AM.rd at h
  cases q : rdo s a with
  | none => rw [q] at h; exact False.elim h
  | some d =>
    rw [q] at h
    exact ⟨d, rd_of S r q, h⟩
end

/-! ### freezing: a step of the reading alone -/
inductive Lk (P : Hp → Prop) : Hp → Prop
  | now {H : Hp} : P H → Lk P H
  | frz {H : Hp} {a : Addr} {vs : List V} : H a = some (.lst vs) → (∀ o, Lk P (upd H a (.frz o (.lst vs)))) → Lk P H
theorem Lk.inv {P : Hp → Prop} {X : Cx} {pins : List (Addr × Obj)} {σ : St} {s : Shared} {H : Hp} (l : Lk P H) : Inv X pins σ H s → ∃ H', Inv X pins σ H' s ∧ P H' := by
  induction l with
  | now p => exact fun I => ⟨_, I, p⟩
  | frz ha _ ih =>
    intro I
    obtain ⟨o, I1⟩ := I.lock ha True.intro
    exact ih o I1
theorem Lk.imp {P P' : Hp → Prop} {H : Hp} (l : Lk P H) (i : ∀ H, P H → P' H) : Lk P' H := by
  induction l with
  | now p => exact .now (i _ p)
  | frz ha _ ih => exact .frz ha ih
section
variable {X : Cx} {e : Expr} {es : List Expr}
theorem pe_lk {t : TE} (h : PE X e t) : PE X e (fun σ H Q => t σ H fun v H1 => Lk (Q v) H1) := by
  refine ⟨fun pins s σ H Q I hw => ?_⟩
  refine thn (h.run pins s σ H _ I hw) fun u s1 ⟨x, H1, I1, r1, q1⟩ => ?_
  obtain ⟨H2, I2, q2⟩ := q1.inv I1
  exact ⟨x, H2, I2, r1, q2⟩
theorem pa_lk {t : TA} (h : PA X es t) : PA X es (fun σ H Q => t σ H fun v H1 => Lk (Q v) H1) := by
  refine ⟨fun pos pins s σ H Q I hw => ?_⟩
  refine thn (h.run pos pins s σ H _ I hw) fun u s1 ⟨x, H1, I1, r1, q1⟩ => ?_
  obtain ⟨H2, I2, q2⟩ := q1.inv I1
  exact ⟨x, H2, I2, r1, q2⟩
theorem pe_imp {t t' : TE} (h : PE X e t) (i : ∀ σ H Q, t' σ H Q → t σ H Q) : PE X e t' := ⟨fun pins s σ H Q I hw => h.run pins s σ H Q I (i σ H Q hw)⟩
theorem pt_imp {t t' : TT} (h : PT X e t) (i : ∀ σ H Q, t' σ H Q → t σ H Q) : PT X e t' := ⟨fun pins s σ H Q I hw => h.run pins s σ H Q I (i σ H Q hw)⟩
theorem pa_imp {t t' : TA} (h : PA X es t) (i : ∀ σ H Q, t' σ H Q → t σ H Q) : PA X es t' := ⟨fun pos pins s σ H Q I hw => h.run pos pins s σ H Q I (i σ H Q hw)⟩
theorem ps_imp {st : Stmt} {t t' : TS} (h : PS X st t) (i : ∀ D σ H, t' D σ H → t D σ H) : PS X st t' := ⟨fun pins s σ H D I hw => h.run pins s σ H D I (i D σ H hw)⟩
theorem pss_imp {st : List Stmt} {t t' : TS} (h : PSs X st t) (i : ∀ D σ H, t' D σ H → t D σ H) : PSs X st t' := ⟨fun pins s σ H D I hw => h.run pins s σ H D I (i D σ H hw)⟩
end

/-! ### readings of the abstract machine's terms -/
def tA (C : Cn) (G : Gd) (W : Wish) (m : M AV) : TE := fun σ H Q => ∃ s, Sim C G s σ H ∧ Run C G W σ H (m s) fun a s' H' => ∀ v, RA C G s' σ H' v a → Q v H'
def tN (C : Cn) (G : Gd) (W : Wish) (m : M AV) : TE := fun σ H Q => ∃ s, Sim C G s σ H ∧ Run C G W σ H (m s) fun a s' H' => ∀ v, RN C σ H' v a → Q v H'
def tD (C : Cn) (G : Gd) (W : Wish) (m : M PyData) : TE := fun σ H Q => ∃ s, Sim C G s σ H ∧ Run C G W σ H (m s) fun d s' H' => ∀ v, Rf C.K H' v d → Q v H'
def tBo (C : Cn) (G : Gd) (W : Wish) (m : M Bool) : TT := fun σ H Q => ∃ s, Sim C G s σ H ∧ Run C G W σ H (m s) fun b s' H' => Q b H'
def tNs (C : Cn) (G : Gd) (W : Wish) (m : M (List AV)) : TA := fun σ H Q => ∃ s, Sim C G s σ H ∧ Run C G W σ H (m s) fun as s' H' => ∀ vs, RNs C σ H' vs as → Q vs H'
section
variable {X : Cx} {e : Expr} {C : Cn} {G : Gd} {W : Wish}
/-- what freezing an abstract value is, at the heap -/
theorem fz_run {σ : St} {H : Hp} {s : AS} {v : V} {a : AV} {k : PyData → AS → Hp → Prop} {P : Hp → Prop} (S : Sim C G s σ H) (r : RA C G s σ H v a) (h : Run C G W σ H (fz a s) k) (i : ∀ d s' H', Ext H H' → Sim C G s' σ H' → Rf C.K H' v d → k d s' H' → P H') : Lk P H := by
  cases a with
  | val d => exact .now (i d s H (Ext.refl H) S r (h.now S))
  | new xs =>
    obtain ⟨a, vs, rfl, ha, hr, hn, fr⟩ := r
    refine .frz ha fun o => .now ?_
    have e : Ext H (upd H a (.frz o (.lst vs))) := ext_upd ha
    have S' : Sim C G s σ (upd H a (.frz o (.lst vs))) := ⟨S.len, fun j sv q => by
      obtain ⟨v', z1, z2⟩ := S.slot j sv q
      refine ⟨v', z1, rslot_other ha (fun b xs' hs z => ?_) z2⟩
      subst hs; subst z
      exact fr j _ _ q z1, S.dist, keep_upd S (.inl hn), there_upd S (fun _ z => by cases z), tabs_upd S.tabs ha⟩
    exact i _ _ _ e S' (.lst ⟨o, upd_same⟩ (hr.ext e)) (h _ e S')
  | bor j =>
    have r : σ[j]? = some (some v) := r
    unfold fz at h
    dsimp only at h
    cases q : sl s j with
    | none => rw [q] at h; exact False.elim h
    | some sv =>
      rw [q] at h
      cases sv with
      | val d =>
        obtain ⟨v', z1, z2⟩ := S.slot j _ q
        rw [r] at z1; cases z1
        exact .now (i d s H (Ext.refl H) S z2 (Run.now h S))
      | own b xs =>
        cases b with
        | true => exact False.elim h
        | false =>
          obtain ⟨a, vs, e1, ha, hf⟩ := S.freeze q
          rw [r] at e1; cases e1
          refine .frz ha fun o => .now ?_
          obtain ⟨S', e, rf⟩ := hf o
          exact i _ _ _ e S' rf (h _ e S')
      | exc c w => exact False.elim h
theorem nz_run {σ : St} {H : Hp} {s : AS} {v : V} {a : AV} {k : AV → AS → Hp → Prop} {P : Hp → Prop} (S : Sim C G s σ H) (r : RA C G s σ H v a) (h : Run C G W σ H (nz a s) k) (i : ∀ a' s' H', Ext H H' → Sim C G s' σ H' → RN C σ H' v a' → k a' s' H' → P H') : Lk P H := by
  cases a with
  | val d => exact .now (i (.val d) s H (Ext.refl H) S r (Run.now h S))
  | new xs => exact fz_run (W := W) (k := fun d s' H' => k (.val d) s' H') (a := .new xs) S r (show Run C G W σ H (.ok (PyData.list xs) s) (fun d s' H' => k (.val d) s' H') from fun H' e S' => h H' e S') fun d s' H' e S' rf q => i (.val d) s' H' e S' rf q
  | bor j => exact .now (i (.bor j) s H (Ext.refl H) S r (Run.now h S))
theorem pe_vl {m : M AV} (h : PE X e (tA C G W m)) : PE X e (tD C G W (vl m)) := by
  refine pe_imp (pe_lk h) fun σ H Q ⟨s, S, q⟩ => ⟨s, S, ?_⟩
  exact (Run.bnd q).imp fun a s1 H1 e1 S1 q1 v r => fz_run S1 r q1 fun d s2 H2 e2 S2 rf q2 => q2 v rf
theorem pe_opn {m : M AV} (h : PE X e (tA C G W m)) : PE X e (tN C G W (opn m)) := by
  refine pe_imp (pe_lk h) fun σ H Q ⟨s, S, q⟩ => ⟨s, S, ?_⟩
  exact (Run.bnd q).imp fun a s1 H1 e1 S1 q1 v r => nz_run S1 r q1 fun d s2 H2 e2 S2 rf q2 => q2 v rf
/-- what a rule is to give: data, at an old or a new place; a new list -/
def AVp (K : PySem.W.Frag) (H : Hp) (Q : VK) : AV → Prop
  | .val d => ∀ v H', Same H H' → Rf K H' v d → Q v H'
  | .new xs => ∀ a vs H', H a = none → Same H H' → H' a = some (.lst vs) → Rfs K H' vs xs → Q (.ref a) H'
  | .bor _ => False
theorem AVp.of {σ : St} {H : Hp} {s : AS} {a : AV} {Q : VK} (S : Sim C G s σ H) (nb : ∀ i, a ≠ .bor i) (h : Run C G W σ H (.ok a s) fun a s' H' => ∀ v, RA C G s' σ H' v a → Q v H') : AVp C.K H Q a := by
  cases a with
  | val d => exact fun v H' e r => h H' (.same e) (S.same e) v r
  | new xs =>
    intro a vs H' hn e ha hr
    refine h H' (.same e) (S.same e) (.ref a) ⟨a, vs, rfl, ha, hr, S.fresh hn, fun j b ys q z => ?_⟩
    obtain ⟨v, z1, c, ws, e2, hc, _⟩ := S.slot j _ q
    rw [z] at z1; cases z1; cases e2
    rw [hn] at hc; cases hc
  | bor i => exact absurd rfl (nb i)
end
end AM
set_option Elab.async false
set_option linter.all false
set_option maxRecDepth 100000
set_option maxHeartbeats 1000000
/-! AM3: the operations on data, over HandS's rules by values. -/
namespace AM
open PySem PySem.Spec PyProof.Rows L2
theorem tuple_mul1 (l : Addr) (items : Array Value) (n : Nat) (dd : Option Addr) (sl : Array (Option Value)) (x : Int) (u : Tok) (c0 : (decide (x < -(2 ^ 63)) || decide (x ≥ 2 ^ 63)) = false) (c1 : (items.isEmpty || x == 1) = true) :
    Meets (Builtin.«tuple.__mul__» ⟨[.ref l, .int x u], []⟩) (fun _ R s => s.heap.get? l = some { cls := .type "tuple", dict := dd, data := .seq items n, slots := sl } ∧ R (.ok (.ret (.ref l))) s) :=
  .of_wp fun prog w A R s h => by
    obtain ⟨hp, g, d, tk, os⟩ := s
    obtain ⟨hl, h⟩ := h
    have f1 := AutoSeq1.idx_int
    wp_walk using wpAny_loadPart' hl
    refine wpAny_ite_false (decide_eq_false (by rw [c0]; exact Bool.false_ne_true)) ?_
    wp_walk using wpAny_loadPart' hl
    exact ⟨_, rfl, h⟩
theorem tuple_mul0 (l : Addr) (items : Array Value) (n : Nat) (dd : Option Addr) (sl : Array (Option Value)) (x : Int) (u : Tok) (c0 : (decide (x < -(2 ^ 63)) || decide (x ≥ 2 ^ 63)) = false) (c1 : (items.isEmpty || x == 1) = false) (c2 : (decide (x ≤ 0) || items.isEmpty) = true) :
    Meets (Builtin.«tuple.__mul__» ⟨[.ref l, .int x u], []⟩) (fun _ R s => s.heap.get? l = some { cls := .type "tuple", dict := dd, data := .seq items n, slots := sl } ∧
      R (.ok (.ret (Value.ref s.heap.objs.size))) { s with heap := s.heap.push { cls := Value.type "tuple", data := Data.seq #[] } }) :=
  .of_wp fun prog w A R s h => by
    obtain ⟨hp, g, d, tk, os⟩ := s
    obtain ⟨hl, h⟩ := h
    have f1 := AutoSeq1.idx_int
    wp_walk using wpAny_loadPart' hl
    refine wpAny_ite_false (decide_eq_false (by rw [c0]; exact Bool.false_ne_true)) ?_
    wp_walk using wpAny_loadPart' hl
    repeat (first
      | (refine wpAny_ite_false (decide_eq_false (by rw [c1]; exact Bool.false_ne_true)) ?_; wp_walk using wpAny_loadPart' hl))
    exact ⟨_, rfl, h⟩
section
variable {X : Cx} {pins : List (Addr × Obj)} {σ : St} {H : Hp} {s : Shared}
/-- a list that can be read, as its object -/
theorem rdLst {l : Addr} {xs : List V} (I : Inv X pins σ H s) (h : Rd H l (.lst xs)) :
    xs.length ≤ sizeLine ∧ ∃ (its : List Value) (n : Nat), Vals xs its ∧ xs.length = its.length ∧ s.heap.get? l = some { cls := .type "list", data := .seq its.toArray n } := by
  obtain ⟨z, its, n, r, e⟩ := h.ok I.hok
  exact ⟨z, its, n, r, r.length, e⟩
def opr : BOp → Operator
  | .add => .Add
  | .sub => .Sub
  | .mul => .Mult
  | .fdiv => .FloorDiv
  | .mod => .Mod
  | .pow => .Pow
/-- an operation on data, by values -/
def rBin (K : PySem.W.Frag) (o : BOp) : R2 := fun x y H Q => ∃ d e a, RD K H x d ∧ RD K H y e ∧ binD o d e = some a ∧ AVp K H Q a
theorem catL {x y : V} {v u : Value} {Q : VK} {ds es : List PyData} (I : Inv X pins σ H s) (rx : RelV x v) (ry : RelV y u) (hx : RD X.K H x (.list ds)) (hy : RD X.K H y (.list es)) (hz : ds.length + es.length ≤ sizeLine) (q : AVp X.K H Q (.new (ds ++ es))) :
    wpAny (model X.prog X.w) X.A (binaryOp .Add v u) (EP X pins σ Q) X.xe s := by
  obtain ⟨a, vs, rfl, ha, h1⟩ := hx.rd
  obtain ⟨b, ws, rfl, hb, h2⟩ := hy.rd
  cases rx
  cases ry
  obtain ⟨z, its, n, r, hl, e⟩ := rdLst I ha
  obtain ⟨z2, its2, n2, r2, hl2, e2⟩ := rdLst I hb
  rw [← h1.length, ← h2.length] at hz
  refine PySem.P.add_list e e2 ?_ (by rw [List.size_toArray, List.size_toArray]; omega)
  rw [show its.toArray ++ its2.toArray = (its ++ its2).toArray by simp]
  refine ⟨.ref _, _, I.lnew (t' := s.toks) (r.append r2) (by rw [List.length_append]; omega), rfl, q _ (vs ++ ws) _ I.fresh (same_upd I.fresh) upd_same ((h1.append h2).ext (.same (same_upd I.fresh)))⟩
theorem catT {x y : V} {v u : Value} {Q : VK} {ds es : List PyData} (I : Inv X pins σ H s) (rx : RelV x v) (ry : RelV y u) (hx : RD X.K H x (.tuple ds)) (hy : RD X.K H y (.tuple es)) (hz : ds.length + es.length ≤ sizeLine) (q : AVp X.K H Q (.val (.tuple (ds ++ es)))) :
    wpAny (model X.prog X.w) X.A (binaryOp .Add v u) (EP X pins σ Q) X.xe s := by
  obtain ⟨a, vs, rfl, ha, h1⟩ := hx.tup
  obtain ⟨b, ws, rfl, hb, h2⟩ := hy.tup
  refine op_catA pins s σ H _ _ v u Q I rx ry ⟨a, b, vs, ws, rfl, rfl, ha, hb, by rw [h1.length, h2.length]; exact hz, fun e => ?_, fun _ e => ?_, fun _ _ p hp => ?_⟩
  · subst e
    cases ds with
    | nil => exact q _ H (Same.refl H) (.tup hb h2)
    | cons d ds => cases h1
  · subst e
    cases es with
    | nil => exact q _ H (Same.refl H) (.tup ha (by rw [List.append_nil]; exact h1))
    | cons d ds => cases h2
  · exact q _ _ (same_upd hp) (.tup (SqT.of upd_same) ((h1.append h2).ext (.same (same_upd hp))))
/-- a tuple times a number -/
theorem mulT {x y : V} {v u : Value} {Q : VK} {ds : List PyData} {k : Int} (I : Inv X pins σ H s) (rx : RelV x v) (ry : RelV y u) (hx : RD X.K H x (.tuple ds)) (hy : RD X.K H y (.int k)) (h1 : k < 2 ^ 63) (h2 : -(2 ^ 63) ≤ k) (hz : ds.length * k.toNat ≤ sizeLine)
    (q : AVp X.K H Q (.val (.tuple (List.replicate k.toNat ds).flatten))) : wpAny (model X.prog X.w) X.A (binaryOp .Mult v u) (EP X pins σ Q) X.xe s := by
  obtain ⟨a, vs, rfl, ha, hr⟩ := hx.tup
  obtain rfl := hy.int
  cases rx
  obtain ⟨t, rfl⟩ := ry
  obtain ⟨its, r, ⟨⟨cls, dd, data, sl⟩, ho, hc, n, hd⟩, hs⟩ := I.tuple ha
  simp only at hc hd
  subst hc hd
  have len1 : its.length = vs.length := r.length.symm
  have len2 : vs.length = ds.length := hr.length
  have c0 : (decide (k < -(2 ^ 63)) || decide (k ≥ 2 ^ 63)) = false := by
    rw [decide_eq_false (by omega), decide_eq_false (by omega)]
    rfl
  by_cases e1 : (its.toArray.isEmpty || k == 1) = true
  · refine wpAny_binaryOp_repeat_ref (T := "tuple") (U := "int") (by decide) ⟨_, ho, rfl⟩ (fun s' => typeIs_int s' k t) noFill_tuple_mul F.fills_int_mul F.slot_int_rmul repeat_tuple F.slot_int_index.lookup
      (call_meets F.slot_int_rmul (typeIs_int s k t) F.entry_int_rmul (F.args_int_rmul_2 _ _) (int_rmul_tuple k t a its.toArray n dd sl)
        ⟨ho, rfl, ⟨_, ho, rfl⟩, call_meets F.slot_tuple_mul ⟨_, ho, rfl⟩ F.entry_tuple_mul (F.args_tuple_mul_2 _ _) (tuple_mul1 a its.toArray n dd sl k t c0 e1) ⟨ho, ?_⟩⟩)
    refine ⟨.ref a, H, I, rfl, q _ H (Same.refl H) (.tup ha ?_)⟩
    rcases Bool.or_eq_true_iff.mp e1 with z | z
    · have e : ds = [] := by
        have z2 : its = [] := by cases its with | nil => rfl | cons _ _ => simp at z
        rw [z2] at len1
        exact List.eq_nil_of_length_eq_zero (by rw [← len2, ← len1]; rfl)
      subst e
      cases hr
      rw [List.flatten_replicate_nil]
      exact .nil
    · have e : k = 1 := eq_of_beq z
      subst e
      simpa using hr
  · have e1 : (its.toArray.isEmpty || k == 1) = false := by simpa using e1
    by_cases e2 : k ≤ 0
    · refine wpAny_binaryOp_repeat_ref (T := "tuple") (U := "int") (by decide) ⟨_, ho, rfl⟩ (fun s' => typeIs_int s' k t) noFill_tuple_mul F.fills_int_mul F.slot_int_rmul repeat_tuple F.slot_int_index.lookup
        (call_meets F.slot_int_rmul (typeIs_int s k t) F.entry_int_rmul (F.args_int_rmul_2 _ _) (int_rmul_tuple k t a its.toArray n dd sl)
          ⟨ho, rfl, ⟨_, ho, rfl⟩, call_meets F.slot_tuple_mul ⟨_, ho, rfl⟩ F.entry_tuple_mul (F.args_tuple_mul_2 _ _) (tuple_mul0 a its.toArray n dd sl k t c0 e1 (by rw [decide_eq_true e2, Bool.true_or])) ⟨ho, ?_⟩⟩)
      have hk : k.toNat = 0 := by omega
      have I1 : Inv X pins σ (upd H s.heap.objs.size (.tup [])) { s with heap := s.heap.push { cls := .type "tuple", data := .seq #[] } } :=
        I.laid (t' := s.toks) (fun b ob q => Heap.get?_push_of_some _ q) (Nat.le_refl _) ⟨Nat.zero_le _, [], .nil, IsTup.new _ _⟩
      refine ⟨.ref s.heap.objs.size, _, I1, rfl, q _ _ (same_upd I.fresh) ?_⟩
      rw [hk]
      exact .tup (SqT.of upd_same) .nil
    · have hi : its.toArray.isEmpty = false := (Bool.or_eq_false_iff.mp e1).1
      have hk1 : k ≠ 1 := fun z => by
        have := (Bool.or_eq_false_iff.mp e1).2
        rw [z] at this
        exact absurd this (by decide)
      have hsz : its.toArray.size * k.toNat ≤ sizeLine := by rw [List.size_toArray, len1, len2]; exact hz
      have hki : ((k.toNat : Nat) : Int) = k := by omega
      have hm : ((its.toArray.size : Nat) : Int) * k ≤ sizeLine := by
        rw [← hki, ← Int.natCast_mul]
        exact Int.ofNat_le.mpr hsz
      have flen : (List.replicate k.toNat its).flatten.length ≤ sizeLine := by
        rw [PyProof.Rows.lm_len_rep_flat, Nat.mul_comm]
        simpa using hsz
      have c4 : Builtin.Tuple.tupleTooMany (((its.toArray.size : Nat) : Int) * k) = false := by
        unfold Builtin.Tuple.tupleTooMany
        exact decide_eq_false (by omega)
      have sl0 : (sizeLine : Int) ≤ (2 ^ 63 - 1) / 8 := by rw [sizeLine_eq]; decide
      refine wpAny_binaryOp_repeat_ref (T := "tuple") (U := "int") (by decide) ⟨_, ho, rfl⟩ (fun s' => typeIs_int s' k t) noFill_tuple_mul F.fills_int_mul F.slot_int_rmul repeat_tuple F.slot_int_index.lookup
        (call_meets F.slot_int_rmul (typeIs_int s k t) F.entry_int_rmul (F.args_int_rmul_2 _ _) (int_rmul_tuple k t a its.toArray n dd sl)
          ⟨ho, rfl, ⟨_, ho, rfl⟩, call_meets F.slot_tuple_mul ⟨_, ho, rfl⟩ F.entry_tuple_mul (F.args_tuple_mul_2 _ _) (tuple_mulW a its.toArray n dd sl k t c0 e1 (by rw [hi, Bool.or_false]; exact decide_eq_false e2) (by omega) c4 (by rw [size_rep, List.size_toArray]; exact flen)) ⟨ho, ?_⟩⟩)
      rw [size_rep]
      have I1 : Inv X pins σ (upd H s.heap.objs.size (.tup (List.replicate k.toNat vs).flatten)) { s with heap := s.heap.push { cls := .type "tuple", data := .seq (List.replicate k.toNat its).flatten.toArray } } :=
        I.laid (t' := s.toks) (fun b ob q => Heap.get?_push_of_some _ q) (Nat.le_refl _) ⟨by rw [← (r.rep k.toNat).length] at flen; exact flen, _, r.rep k.toNat, IsTup.new _ _⟩
      exact ⟨.ref s.heap.objs.size, _, I1, rfl, q _ _ (same_upd I.fresh) (.tup (SqT.of upd_same) ((hr.rep k.toNat).ext (.same (same_upd I.fresh))))⟩
theorem op_bin (o : BOp) : OpR X (binaryOp (opr o)) (rBin X.K o) := by
  intro pins s σ H x y v u Q I rx ry ⟨d, e, a, hx, hy, hb, q⟩
  cases o with
  | add =>
    cases d with
    | int i => cases e with
      | int j =>
        cases hb; obtain rfl := hx.int; obtain rfl := hy.int
        exact op_add pins s σ H _ _ v u Q I rx ry ⟨i, j, rfl, rfl, q _ H (Same.refl H) (.int _)⟩
      | _ => cases hb
    | str i => cases e with
      | str j =>
        obtain rfl := hx.str; obtain rfl := hy.str
        unfold binD at hb
        dsimp only at hb
        split at hb
        · rename_i hf
          cases hb
          exact op_add_str pins s σ H _ _ v u Q I rx ry ⟨i, j, rfl, rfl, of_decide_eq_true hf, q _ H (Same.refl H) (.str _)⟩
        · cases hb
      | _ => cases hb
    | tuple i => cases e with
      | tuple j =>
        unfold binD at hb
        dsimp only at hb
        split at hb
        · rename_i hf
          cases hb
          exact catT I rx ry hx hy (of_decide_eq_true hf) q
        · cases hb
      | _ => cases hb
    | list i => cases e with
      | list j =>
        unfold binD at hb
        dsimp only at hb
        split at hb
        · rename_i hf
          cases hb
          exact catL I rx ry hx hy (of_decide_eq_true hf) q
        · cases hb
      | _ => cases hb
    | _ => cases hb
  | sub =>
    cases d with
    | int i => cases e with
      | int j =>
        cases hb; obtain rfl := hx.int; obtain rfl := hy.int
        exact op_sub pins s σ H _ _ v u Q I rx ry ⟨i, j, rfl, rfl, q _ H (Same.refl H) (.int _)⟩
      | _ => cases hb
    | _ => cases hb
  | mul =>
    cases d with
    | int i => cases e with
      | int j =>
        obtain rfl := hx.int; obtain rfl := hy.int
        unfold binD at hb
        dsimp only at hb
        split at hb
        · rename_i hf
          cases hb
          exact op_mulW pins s σ H _ _ v u Q I rx ry ⟨i, j, rfl, rfl, (show i.natAbs.log2 + j.natAbs.log2 < 1000000 from of_decide_eq_true hf), q _ H (Same.refl H) (.int _)⟩
        · cases hb
      | _ => cases hb
    | tuple i => cases e with
      | int j =>
        unfold binD at hb
        dsimp only at hb
        split at hb
        · rename_i hf
          cases hb
          simp only [Bool.and_eq_true, decide_eq_true_eq] at hf
          exact mulT I rx ry hx hy hf.1.1 hf.1.2 (of_decide_eq_true hf.2) q
        · cases hb
      | _ => cases hb
    | _ => cases hb
  | fdiv =>
    cases d with
    | int i => cases e with
      | int j =>
        obtain rfl := hx.int; obtain rfl := hy.int
        unfold binD at hb
        dsimp only at hb
        split at hb
        · rename_i hf
          cases hb
          unfold divOk at hf
          simp only [Bool.and_eq_true, decide_eq_true_eq] at hf
          exact op_fdivW pins s σ H _ _ v u Q I rx ry ⟨i, j, rfl, rfl, ⟨hf.1, hf.2⟩, q _ H (Same.refl H) (.int _)⟩
        · cases hb
      | _ => cases hb
    | _ => cases hb
  | mod =>
    cases d with
    | int i => cases e with
      | int j =>
        obtain rfl := hx.int; obtain rfl := hy.int
        unfold binD at hb
        dsimp only at hb
        split at hb
        · rename_i hf
          cases hb
          exact op_mod pins s σ H _ _ v u Q I rx ry ⟨i, j, rfl, rfl, of_decide_eq_true hf, q _ H (Same.refl H) (.int _)⟩
        · cases hb
      | _ => cases hb
    | _ => cases hb
  | pow =>
    cases d with
    | int i => cases e with
      | int j =>
        obtain rfl := hx.int; obtain rfl := hy.int
        unfold binD at hb
        dsimp only at hb
        split at hb
        · rename_i hf
          cases hb
          unfold powOk at hf
          simp only [Bool.and_eq_true, decide_eq_true_eq] at hf
          exact op_pow pins s σ H _ _ v u Q I rx ry ⟨i, j, rfl, rfl, ⟨hf.1.1, hf.1.2, hf.2⟩, q _ H (Same.refl H) (.int _)⟩
        · cases hb
      | _ => cases hb
    | _ => cases hb

def copr : COp → CmpOp
  | .eq => .Eq
  | .ne => .NotEq
  | .lt => .Lt
  | .le => .LtE
  | .gt => .Gt
  | .ge => .GtE
def rCmp (K : PySem.W.Frag) (o : COp) : R2 := fun x y H Q => ∃ d e k, RD K H x d ∧ RD K H y e ∧ cmpD o d e = some k ∧ Q (.bl k) H
theorem eqv_comm_scal {x y : V} {d e : PyData} {K : PySem.W.Frag} (hx : RD K H x d) (hy : RD K H y e) (h : scalD d e = true) : scal x y = true ∧ decide (x = y) = PyData.eqv d e := by
  cases d with
  | none =>
    obtain rfl := hx.non
    cases e with
    | none => obtain rfl := hy.non; exact ⟨rfl, by simp [PyData.eqv]⟩
    | int j => obtain rfl := hy.int; exact ⟨rfl, by simp [PyData.eqv]⟩
    | bool j => obtain rfl := hy.bl; exact ⟨rfl, by simp [PyData.eqv]⟩
    | str j => obtain rfl := hy.str; exact ⟨rfl, by simp [PyData.eqv]⟩
    | _ => cases h
  | int i =>
    obtain rfl := hx.int
    cases e with
    | none => obtain rfl := hy.non; exact ⟨rfl, by simp [PyData.eqv]⟩
    | int j => obtain rfl := hy.int; exact ⟨rfl, by rw [dec_int]; simp [PyData.eqv]⟩
    | str j => obtain rfl := hy.str; exact ⟨rfl, by simp [PyData.eqv]⟩
    | _ => cases h
  | bool i =>
    obtain rfl := hx.bl
    cases e with
    | none => obtain rfl := hy.non; exact ⟨rfl, by simp [PyData.eqv]⟩
    | bool j => obtain rfl := hy.bl; exact ⟨rfl, by rw [dec_bl]; simp [PyData.eqv]⟩
    | str j => obtain rfl := hy.str; exact ⟨rfl, by simp [PyData.eqv]⟩
    | _ => cases h
  | str i =>
    obtain rfl := hx.str
    cases e with
    | none => obtain rfl := hy.non; exact ⟨rfl, by simp [PyData.eqv]⟩
    | int j => obtain rfl := hy.int; exact ⟨rfl, by simp [PyData.eqv]⟩
    | bool j => obtain rfl := hy.bl; exact ⟨rfl, by simp [PyData.eqv]⟩
    | str j => obtain rfl := hy.str; exact ⟨rfl, by rw [dec_str]; simp [PyData.eqv]⟩
    | _ => cases h
  | _ => cases h
theorem op_cmp (hu : X.A.units + 64 < cLine) (o : COp) : OpR X (compareOp (copr o)) (rCmp X.K o) := by
  intro pins s σ H x y v u Q I rx ry ⟨d, e, k, hx, hy, hb, q⟩
  have two : ∀ {f : Int → Int → Bool}, (∀ i j, d = .int i → e = .int j → k = f i j → wpAny (model X.prog X.w) X.A (compareOp (copr o) v u) (EP X pins σ Q) X.xe s) → (match d, e with | .int i, .int j => some (f i j) | _, _ => none) = some k → wpAny (model X.prog X.w) X.A (compareOp (copr o) v u) (EP X pins σ Q) X.xe s := fun {f} h z => by
    cases d with
    | int i => cases e with
      | int j => cases z; exact h i j rfl rfl rfl
      | _ => cases z
    | _ => cases z
  cases o with
  | eq =>
    unfold cmpD at hb
    dsimp only at hb
    split at hb
    · rename_i hf
      cases hb
      unfold eqOk at hf
      rcases Bool.or_eq_true_iff.mp hf with hs | hs
      · obtain ⟨h1, h2⟩ := eqv_comm_scal hx hy hs
        exact op_eq pins s σ H x y v u Q I rx ry ⟨h1, by rw [h2]; exact q⟩
      · simp only [Bool.and_eq_true, decide_eq_true_eq] at hs
        obtain ⟨as, r1⟩ := Dp.reads I d x v (hx.dp hs.1.1) rx
        obtain ⟨bs, r2⟩ := Dp.reads I e y u (hy.dp hs.1.2) ry
        exact SeqAt.compareEq_reads r1 r2 hs.1.1 hs.1.2 (by omega) ⟨.bl _, H, I, rfl, q⟩
    · cases hb
  | ne =>
    unfold cmpD at hb
    dsimp only at hb
    split at hb
    · rename_i hf
      cases hb
      unfold eqOk at hf
      rcases Bool.or_eq_true_iff.mp hf with hs | hs
      · obtain ⟨h1, h2⟩ := eqv_comm_scal hx hy hs
        exact op_ne pins s σ H x y v u Q I rx ry ⟨h1, by rw [h2]; exact q⟩
      · simp only [Bool.and_eq_true, decide_eq_true_eq] at hs
        obtain ⟨as, r1⟩ := Dp.reads I d x v (hx.dp hs.1.1) rx
        obtain ⟨bs, r2⟩ := Dp.reads I e y u (hy.dp hs.1.2) ry
        exact SeqAt.compareNe_reads r1 r2 hs.1.1 hs.1.2 (by omega) ⟨.bl _, H, I, rfl, q⟩
    · cases hb
  | lt => exact two (f := fun i j => decide (i < j)) (fun i j e1 e2 ek => by subst e1 e2 ek; obtain rfl := hx.int; obtain rfl := hy.int; exact op_lt pins s σ H _ _ v u Q I rx ry ⟨i, j, rfl, rfl, q⟩) (by cases d <;> cases e <;> exact hb)
  | le => exact two (f := fun i j => decide (i ≤ j)) (fun i j e1 e2 ek => by subst e1 e2 ek; obtain rfl := hx.int; obtain rfl := hy.int; exact op_le pins s σ H _ _ v u Q I rx ry ⟨i, j, rfl, rfl, q⟩) (by cases d <;> cases e <;> exact hb)
  | gt => exact two (f := fun i j => decide (j < i)) (fun i j e1 e2 ek => by subst e1 e2 ek; obtain rfl := hx.int; obtain rfl := hy.int; exact op_gt pins s σ H _ _ v u Q I rx ry ⟨i, j, rfl, rfl, q⟩) (by cases d <;> cases e <;> exact hb)
  | ge => exact two (f := fun i j => decide (j ≤ i)) (fun i j e1 e2 ek => by subst e1 e2 ek; obtain rfl := hx.int; obtain rfl := hy.int; exact op_ge pins s σ H _ _ v u Q I rx ry ⟨i, j, rfl, rfl, q⟩) (by cases d <;> cases e <;> exact hb)

/-- truth -/
theorem tru_of {K : PySem.W.Frag} {x : V} {d : PyData} {k : Bool} (hx : RD K H x d) (h : trD d = some k) : TruV K x H k := by
  cases d with
  | none => obtain rfl := hx.non; cases h; rfl
  | bool b => obtain rfl := hx.bl; cases h; rfl
  | int b => obtain rfl := hx.int; cases h; rfl
  | str b =>
    obtain rfl := hx.str
    unfold trD at h
    dsimp only at h
    split at h
    · rename_i hf
      cases h
      exact ⟨of_decide_eq_true hf, rfl⟩
    · cases h
  | list b =>
    obtain ⟨a, vs, rfl, hs, hr⟩ := hx.list
    cases h
    exact .inl ⟨vs, hs, by rw [hr.isEmpty]⟩
  | tuple b =>
    obtain ⟨a, vs, rfl, hs, hr⟩ := hx.tup
    cases h
    exact .inr (.inl ⟨vs, hs, by rw [hr.isEmpty]⟩)
  | dict b => cases h
end

/-! ### subscripts -/
section
variable {X : Cx}
def rIxD (K : PySem.W.Frag) : R2 := fun x y H Q => ∃ d j e, RD K H x d ∧ Rf K H y j ∧ ixD d j = some e ∧ ∀ v, Rf K H v e → Q v H
theorem ix_data : IxR X (rIxD X.K) := by
  have key := ix_seq (X := X)
  intro value slice pins s σ H x y v u Q I rx ry ⟨d, j, e, hx, hy, hb, q⟩ hs0
  cases j with
  | int i =>
    cases hy
    refine key value slice pins s σ H _ _ v u Q I rx ry ?_ hs0
    cases d with
    | list ds =>
      obtain ⟨a, vs, rfl, hs, hr⟩ := hx.list
      obtain ⟨w, h1, h2⟩ := hr.atI hb
      exact .inl ⟨a, vs, i, w, rfl, rfl, hs, h1, q w h2⟩
    | tuple ds =>
      obtain ⟨a, vs, rfl, hs, hr⟩ := hx.tup
      obtain ⟨w, h1, h2⟩ := hr.atI hb
      exact .inr (.inl ⟨a, vs, i, w, rfl, rfl, hs, h1, q w h2⟩)
    | dict ds =>
      match ds, hx, hb with
      | [(.list xs, .none)], hx, hb =>
        obtain ⟨a, vs, rfl, hs, hr⟩ := hx.scr
        obtain ⟨w, h1, h2⟩ := hr.atI hb
        exact .inl ⟨a, vs, i, w, rfl, rfl, hs, h1, q w h2⟩
    | _ => cases hb
  | _ => cases d <;> first | cases hb | (rename_i ds; rcases ds with _ | ⟨⟨a, b⟩, _ | ⟨_, _⟩⟩ <;> first | cases hb | (cases a <;> cases b <;> cases hb))
def rSlD (K : PySem.W.Frag) : V → Option Int → Option Int → Hp → VK → Prop := fun x lo hi H Q => ∃ d a, RD K H x d ∧ slcD d lo hi = some a ∧ AVp K H Q a
theorem sl_data : SlR X (rSlD X.K) := by
  have key := (sl_list (X := X)).or (sl_tupA (X := X))
  intro pins s σ H x v vl vu lo hi sl Q I rx hs pl pu ⟨d, a, hx, hb, q⟩
  refine key pins s σ H x v vl vu lo hi sl Q I rx hs pl pu ?_
  cases d with
  | list ds =>
    obtain ⟨a, vs, rfl, hs, hr⟩ := hx.list
    cases hb
    exact .inl ⟨a, vs, rfl, hs, fun p hp => q p _ _ hp (same_upd hp) upd_same ((hr.cut lo hi).ext (.same (same_upd hp)))⟩
  | tuple ds =>
    obtain ⟨a, vs, rfl, hs, hr⟩ := hx.tup
    cases hb
    refine .inr ⟨a, vs, rfl, hs, fun e => ?_, fun _ p hp => q _ _ (same_upd hp) (.tup (SqT.of upd_same) ((hr.cut lo hi).ext (.same (same_upd hp))))⟩
    refine q _ H (Same.refl H) (.tup hs ?_)
    have z := hr.cut lo hi
    unfold cutV at z
    rw [e.1, e.2] at z
    simpa using z
  | _ => cases hb
end

/-! ### xs[::-1] -/
section
variable {X : Cx} {pins : List (Addr × Obj)} {σ : St} {H : Hp} {s : Shared} {prog : Program} {w : World} {A : Around} {E : Value → Shared → Prop}
theorem rev_adj (n : Nat) : Builtin.Slice.sliceAdjust none none (-1) (n : Int) = ((n : Int) - 1, -1) := by
  simp [Builtin.Slice.sliceAdjust]
theorem rev_places (n : Nat) : Builtin.Slice.slicePlaces ((n : Int) - 1) (-1) (-1) = n := by
  unfold Builtin.Slice.slicePlaces
  rw [if_neg (by decide)]
  by_cases h : (n : Int) - 1 > -1
  · rw [if_pos h]
    have : ((n : Int) - 1 - -1 - 1) / (-(-1)) + 1 = n := by
      have e : ((n : Int) - 1 - -1 - 1) = n - 1 := by omega
      rw [e, show (-(-1) : Int) = 1 from rfl, Int.ediv_one]
      omega
    rw [this]
    exact Int.toNat_natCast n
  · rw [if_neg h]
    have : n = 0 := by omega
    subst this
    rfl
theorem fm_cong {α β : Type} {f g : α → Option β} : ∀ {l : List α}, (∀ a ∈ l, f a = g a) → l.filterMap f = l.filterMap g
  | [], _ => rfl
  | a :: l, h => by
    rw [List.filterMap_cons, List.filterMap_cons, h a List.mem_cons_self, fm_cong fun b hb => h b (List.mem_cons_of_mem _ hb)]
theorem rev_pick (xs : List Value) : ((List.range xs.length).filterMap fun (k : Nat) => xs.toArray[(((xs.length : Int) - 1) + (k : Int) * (-1)).toNat]?) = xs.reverse := by
  have key : ∀ k, k < xs.length → xs.toArray[(((xs.length : Int) - 1) + (k : Int) * (-1)).toNat]? = xs.reverse[k]? := fun k hk => by
    have e : (((xs.length : Int) - 1) + (k : Int) * (-1)).toNat = xs.length - 1 - k := by omega
    rw [e, List.getElem?_toArray, List.getElem?_reverse hk]
  rw [fm_cong (g := fun k => xs.reverse[k]?) (fun k hk => key k (List.mem_range.mp hk))]
  have len : xs.reverse.length = xs.length := List.length_reverse
  rw [← len]
  generalize xs.reverse = ys
  clear key
  induction ys with
  | nil => rfl
  | cons y ys ih =>
    rw [List.length_cons, List.range_succ_eq_map, List.filterMap_cons]
    simp only [List.getElem?_cons_zero, List.filterMap_map]
    rw [show ((fun k => (y :: ys)[k]?) ∘ Nat.succ) = fun k => ys[k]? from by funext k; simp]
    rw [ih]
theorem applied_rev {sl : Addr} {vl vu vs : Value} {n : Nat} {Q : Int × Int × Nat → Shared → Prop} (hs : s.heap.IsSliceOf sl vl vu vs) (pl : IsPart vl none) (pu : IsPart vu none) (ps : IsPart vs (some (-1)))
    (h : Q ((n : Int) - 1, -1, n) s) : wpAny (model prog w) A (Builtin.Slice.sliceApplied (.ref sl) (pure (n : Int))) Q E s := by
  obtain ⟨os, hos, hcs, hds⟩ := id hs
  unfold Builtin.Slice.sliceApplied Builtin.Slice.sliceFields
  refine wpAny_bind (wpAny_bind (wpAny_field hos hds (x := vl) rfl (wpAny_bind (wpAny_field hos hds (x := vu) rfl (wpAny_bind (wpAny_field hos hds (x := vs) rfl (wpAny_pure ?_)))))))
  refine wpAny_bind (HT.slicePart_ ps ?_)
  show wpAny _ _ (if ((-1 : Int) == 0) = true then _ else _) _ _ s
  rw [if_neg (by decide)]
  refine wpAny_bind (HT.slicePart_ pl (wpAny_bind (HT.slicePart_ pu (wpAny_bind (wpAny_pure ?_)))))
  show wpAny _ _ (match Builtin.Slice.sliceAdjust none none (-1) (n : Int) with | (lo, hi) => pure (lo, (-1 : Int), Builtin.Slice.slicePlaces lo hi (-1))) _ _ s
  rw [rev_adj n]
  show wpAny _ _ (pure ((n : Int) - 1, (-1 : Int), Builtin.Slice.slicePlaces ((n : Int) - 1) (-1) (-1))) _ _ s
  rw [rev_places]
  exact wpAny_pure h
theorem getItem_rev {t sl : Addr} {xs : List Value} {vl vu vs : Value} {Q : Value → Shared → Prop} (ht : IsTup s.heap t xs.toArray) (hs : s.heap.IsSliceOf sl vl vu vs) (pl : IsPart vl none) (pu : IsPart vu none) (ps : IsPart vs (some (-1)))
    (h : Q (.ref s.heap.objs.size) { s with heap := s.heap.push { cls := .type "tuple", data := .seq xs.reverse.toArray } }) (hsz : xs.length ≤ sizeLine) : wpAny (model prog w) A (getItem (.ref t) (.ref sl)) Q E s := by
  have hz : sizeOk (.seq xs.reverse.toArray) := by
    show xs.reverse.toArray.size ≤ sizeLine
    rw [List.size_toArray, List.length_reverse]
    exact hsz
  obtain ⟨os, hos, hcs, hds⟩ := id hs
  have hTs : s.TypeIs (.ref sl) "slice" := ⟨os, hos, hcs⟩
  unfold getItem
  try with_reducible refine wpAny_holding ?_
  first | refine wpAny_bind (wpAny_pure ?_) | skip
  refine wpAny_bind (wpAny_sequenceKey ht.typeIs (by decide) ?_)
  refine wpAny_bind (wpAny_callSpecial?_slot (name := Str.ofString "__getitem__") ht.typeIs PyProof.Rows.slot_tuple_getitem
    (wpAny_call_entry PyProof.Rows.slot_tuple_getitem ht.typeIs entry_tuple_getitem ?_ (args_tuple_getitem _ _)))
  show wpAny _ _ (Builtin.Tuple.tupleItemsOf (.ref t) >>= _) _ _ s
  refine wpAny_bind (tupleItemsOf_ ht ?_)
  refine wpAny_bind (wpAny_typeOf hTs ?_)
  rw [if_pos (by decide)]
  refine wpAny_bind (applied_rev (n := xs.toArray.size) hs pl pu ps ?_)
  show wpAny _ _ (if (((xs.toArray.size : Int) - 1) == 0 && (-1 : Int) == 1 && xs.toArray.size == xs.toArray.size) = true then _ else _) _ _ s
  rw [if_neg (by simp)]
  rw [List.size_toArray, rev_pick]
  first
    | exact wpAny_bind (m := Builtin.Tuple.tupleExact _) (wpAny_newObj_type (wpAny_pure ⟨_, rfl, wpAny_pure h⟩) hz)
    | exact wpAny_bind (m := Builtin.Tuple.tupleExact _) (wpAny_newObj_type (wpAny_bind (wpAny_pure (wpAny_pure ⟨_, rfl, wpAny_pure h⟩))) hz)
    | exact wpAny_bind (wpAny_bind (m := Builtin.Tuple.tupleExact _) (wpAny_newObj_type (wpAny_pure (wpAny_pure ⟨_, rfl, wpAny_pure h⟩)) hz))
    | exact wpAny_bind (wpAny_bind (m := Builtin.Tuple.tupleExact _) (wpAny_newObj_type (wpAny_pure ⟨_, rfl, wpAny_pure h⟩) hz))
/-- xs[::-1] of a list or a tuple -/
def tRev (K : PySem.W.Frag) (te : TE) : TE := fun σ H Q => te σ H fun x H1 => ∃ d a, RD K H1 x d ∧ revD d = some a ∧ AVp K H1 Q a
theorem pe_rev {e : Expr} {te : TE} {k : Nat} {p1 p2 p3 pos : Pos} (he : PE X e te) : PE X (.Subscript e (.Slice none none (some (.UnaryOp .USub (.Constant (.int 1) k p1) p2)) p3) pos) (tRev X.K te) := by
  refine ⟨fun pins s σ H Q I h => ?_⟩
  refine Subscript_ (thn (he.run pins s σ H _ I h) fun v s1 ⟨x, H1, I1, r1, d, av, hx, hb, q⟩ => ?_)
  have hst : PO X (some (.UnaryOp .USub (.Constant (.int 1) k p1) p2)) (tPart (tUn (rU fun i => .int (-i)) (tC (.int 1)))) := po_some (pe_un un_neg pe_int)
  refine wpAny_Slice (thn (po_none.run pins s1 σ H1 (fun o H2 => o = none ∧ H2 = H1) I1 ⟨rfl, rfl⟩) fun vl s2 ⟨l, H2, I2, pl, el, e2⟩ => ?_)
  subst el e2
  refine thn (po_none.run pins s2 σ H2 (fun o H3 => o = none ∧ H3 = H2) I2 ⟨rfl, rfl⟩) fun vu s3 ⟨u, H3, I3, pu, eu, e3⟩ => ?_
  subst eu e3
  refine thn (hst.run pins s3 σ H3 (fun o H4 => o = some (-1) ∧ H4 = H3) I3 ⟨1, rfl, -1, rfl, rfl, rfl⟩) fun vs s4 ⟨o, H4, I4, ps, eo, e4⟩ => ?_
  subst eo e4
  have I5 : Inv X pins σ H4 { s4 with heap := s4.heap.push { cls := .type "slice", data := .fields #[vl, vu, vs] } } := I4.kept (t' := s4.toks) fun b ob q => Heap.get?_push_of_some _ q
  cases d with
  | list ds =>
    obtain ⟨a, xs, rfl, hs, hr⟩ := hx.list
    cases r1
    cases hb
    obtain ⟨its, r, ht, hz⟩ := I5.list hs
    have hlen := r.length
    show wpAny (model X.prog X.w) X.A (subscriptTail e (.Slice none none (some (.UnaryOp .USub (.Constant (.int 1) k p1) p2)) p3) (.ref a) (.ref s4.heap.objs.size)) (EP X pins σ Q) X.xe { s4 with heap := s4.heap.push { cls := .type "slice", data := .fields #[vl, vu, vs] } }
    refine tail_any (ops := [.ref a, .ref s4.heap.objs.size]) ht.isList.typeIs (PySem.slot_list_getitem.lookup) ?_ (by with_unfolding_all rfl)
    refine wpAny_getItem_list_slice ht.isList (Heap.IsSliceOf.new _ vl vu vs) pl pu ps (by decide) ?_ (by rw [List.size_toArray]; omega)
    rw [PySem.W.krv_pick]
    have I6 := I5.laid (t' := s4.toks) (o := .lst xs.reverse) (fun b ob q => Heap.get?_push_of_some _ q) (Nat.le_refl _) ⟨by rw [List.length_reverse]; exact hz, _, 0, r.reverse, Heap.get?_push_size _ rfl⟩
    exact ⟨.ref _, _, I6, rfl, q _ _ _ I5.fresh (same_upd I5.fresh) upd_same (hr.reverse.ext (.same (same_upd I5.fresh)))⟩
  | tuple ds =>
    obtain ⟨a, xs, rfl, hs, hr⟩ := hx.tup
    cases r1
    cases hb
    obtain ⟨its, r, ht, hz⟩ := I5.tuple hs
    have hlen := r.length
    show wpAny (model X.prog X.w) X.A (subscriptTail e (.Slice none none (some (.UnaryOp .USub (.Constant (.int 1) k p1) p2)) p3) (.ref a) (.ref s4.heap.objs.size)) (EP X pins σ Q) X.xe { s4 with heap := s4.heap.push { cls := .type "slice", data := .fields #[vl, vu, vs] } }
    refine tail_any (ops := [.ref a, .ref s4.heap.objs.size]) ht.typeIs (PyProof.Rows.slot_tuple_getitem.lookup) ?_ (by with_unfolding_all rfl)
    refine getItem_rev ht (Heap.IsSliceOf.new _ vl vu vs) pl pu ps ?_ (by omega)
    have I6 := I5.laid (t' := s4.toks) (o := .tup xs.reverse) (fun b ob q => Heap.get?_push_of_some _ q) (Nat.le_refl _) ⟨by rw [List.length_reverse]; exact hz, _, r.reverse, IsTup.new _ _⟩
    exact ⟨.ref _, _, I6, rfl, q _ _ (same_upd I5.fresh) (.tup (SqT.of upd_same) (hr.reverse.ext (.same (same_upd I5.fresh))))⟩
  | _ => cases hb
end
end AM
set_option Elab.async false
set_option linter.all false
set_option maxRecDepth 100000
set_option maxHeartbeats 1000000
/-! AM4: built-ins and methods on data. -/
namespace AM
open PySem PySem.Spec PyProof.Rows L2
def RDs (K : PySem.W.Frag) (H : Hp) : List V → List PyData → Prop
  | [], [] => True
  | v :: vs, d :: ds => RD K H v d ∧ RDs K H vs ds
  | _, _ => False
theorem RDs.one {K : PySem.W.Frag} {H : Hp} {xs : List V} {d : PyData} (h : RDs K H xs [d]) : ∃ x, xs = [x] ∧ RD K H x d := by
  match xs, h with
  | [x], h => exact ⟨x, rfl, h.1⟩
  | [], h => exact h.elim
  | _ :: _ :: _, h => exact h.2.elim
theorem RDs.two {K : PySem.W.Frag} {H : Hp} {xs : List V} {d e : PyData} (h : RDs K H xs [d, e]) : ∃ x y, xs = [x, y] ∧ RD K H x d ∧ RD K H y e := by
  match xs, h with
  | [x, y], h => exact ⟨x, y, rfl, h.1, h.2.1⟩
  | [], h => exact h.elim
  | [_], h => exact h.2.elim
  | _ :: _ :: _ :: _, h => exact h.2.2.elim
def bltN : Blt → Str
  | .len => "len"
  | .int => "int"
  | .max => "max"
  | .min => "min"
  | .tuple => "tuple"
  | .list => "list"
  | .sum => "sum"
  | .any => "any"
  | .all => "all"
  | .abs => "abs"
def bltV : Blt → Value
  | .len => .builtin "len"
  | .int => .type "int"
  | .max => .builtin "max"
  | .min => .builtin "min"
  | .tuple => .type "tuple"
  | .list => .type "list"
  | .sum => .builtin "sum"
  | .any => .builtin "any"
  | .all => .builtin "all"
  | .abs => .builtin "abs"
theorem bltB (b : Blt) : bootBuiltins (bltN b) = some (bltV b) := by cases b <;> decide +kernel
/-- which need that nothing is being handled -/
def bltCalm : Blt → Bool
  | .max => true
  | .min => true
  | .sum => true
  | .any => true
  | .all => true
  | _ => false
theorem rfs_ints {K : PySem.W.Frag} {H : Hp} : ∀ {ds : List PyData} {vs : List V} {ns : List Int}, intsD ds = some ns → Rfs K H vs ds → vs = ns.map V.int
  | [], _, _, e, h => by cases e; cases h; rfl
  | .int i :: ds, _, _, e, h => by
    unfold intsD at e
    obtain ⟨ms, e1, e2⟩ := Option.map_eq_some_iff.mp e
    cases h with
    | cons h1 h2 => cases h1; rw [rfs_ints e1 h2, ← e2]; rfl
  | .none :: _, _, _, e, _ => by cases e
  | .bool _ :: _, _, _, e, _ => by cases e
  | .str _ :: _, _, _, e, _ => by cases e
  | .list _ :: _, _, _, e, _ => by cases e
  | .tuple _ :: _, _, _, e, _ => by cases e
  | .dict _ :: _, _, _, e, _ => by cases e
theorem rfs_bools {K : PySem.W.Frag} {H : Hp} : ∀ {ds : List PyData} {vs : List V} {ns : List Bool}, boolsD ds = some ns → Rfs K H vs ds → vs = ns.map V.bl
  | [], _, _, e, h => by cases e; cases h; rfl
  | .bool i :: ds, _, _, e, h => by
    unfold boolsD at e
    obtain ⟨ms, e1, e2⟩ := Option.map_eq_some_iff.mp e
    cases h with
    | cons h1 h2 => cases h1; rw [rfs_bools e1 h2, ← e2]; rfl
  | .none :: _, _, _, e, _ => by cases e
  | .int _ :: _, _, _, e, _ => by cases e
  | .str _ :: _, _, _, e, _ => by cases e
  | .list _ :: _, _, _, e, _ => by cases e
  | .tuple _ :: _, _, _, e, _ => by cases e
  | .dict _ :: _, _, _, e, _ => by cases e
theorem rfs_strs {K : PySem.W.Frag} {H : Hp} : ∀ {ds : List PyData} {vs : List V} {ns : List Str}, strsD ds = some ns → Rfs K H vs ds → vs = ns.map V.str
  | [], _, _, e, h => by cases e; cases h; rfl
  | .str i :: ds, _, _, e, h => by
    unfold strsD at e
    obtain ⟨ms, e1, e2⟩ := Option.map_eq_some_iff.mp e
    cases h with
    | cons h1 h2 => cases h1; rw [rfs_strs e1 h2, ← e2]; rfl
  | .none :: _, _, _, e, _ => by cases e
  | .int _ :: _, _, _, e, _ => by cases e
  | .bool _ :: _, _, _, e, _ => by cases e
  | .list _ :: _, _, _, e, _ => by cases e
  | .tuple _ :: _, _, _, e, _ => by cases e
  | .dict _ :: _, _, _, e, _ => by cases e
section
variable {X : Cx}
def rBlt (K : PySem.W.Frag) (b : Blt) : List V → Hp → VK → Prop := fun xs H Q => ∃ ds a, RDs K H xs ds ∧ bltD b ds = some a ∧ AVp K H Q a
theorem call_blt (b : Blt) (hc : bltCalm b = true → X.calm = true) : CallR X (bltV b) (rBlt X.K b) := by
  intro pins s σ H xs us Q I r ⟨ds, a, hx, hb, q⟩
  match b, ds, hb, hx with
  | .len, [.list ys], hb, hx =>
    cases hb
    obtain ⟨x, rfl, h⟩ := hx.one
    obtain ⟨p, vs, rfl, hs, hr⟩ := h.list
    exact call_len pins s σ H _ us Q I r ⟨_, vs.length, rfl, .inl ⟨vs, hs, rfl⟩, by rw [hr.length]; exact q _ H (Same.refl H) (.int _)⟩
  | .len, [.tuple ys], hb, hx =>
    cases hb
    obtain ⟨x, rfl, h⟩ := hx.one
    obtain ⟨p, vs, rfl, hs, hr⟩ := h.tup
    exact call_len pins s σ H _ us Q I r ⟨_, vs.length, rfl, .inr ⟨vs, hs, rfl⟩, by rw [hr.length]; exact q _ H (Same.refl H) (.int _)⟩
  | .len, [.dict [(.list ys, .none)]], hb, hx =>
    cases hb
    obtain ⟨x, rfl, h⟩ := hx.one
    obtain ⟨p, vs, rfl, hs, hr⟩ := h.scr
    exact call_len pins s σ H _ us Q I r ⟨_, vs.length, rfl, .inl ⟨vs, hs, rfl⟩, by rw [hr.length]; exact q _ H (Same.refl H) (.int _)⟩
  | .len, [.str y], hb, hx =>
    obtain ⟨x, rfl, h⟩ := hx.one
    obtain rfl := h.str
    unfold bltD at hb
    dsimp only at hb
    split at hb
    · rename_i hf
      cases hb
      exact call_len pins s σ H _ us Q I r ⟨_, y.length, rfl, ⟨of_decide_eq_true hf, rfl⟩, q _ H (Same.refl H) (.int _)⟩
    · cases hb
  | .int, [.int i], hb, hx =>
    cases hb
    obtain ⟨x, rfl, h⟩ := hx.one
    obtain rfl := h.int
    exact call_int1 pins s σ H _ us Q I r (.inl ⟨i, rfl, q _ H (Same.refl H) (.int _)⟩)
  | .int, [.bool i], hb, hx =>
    cases hb
    obtain ⟨x, rfl, h⟩ := hx.one
    obtain rfl := h.bl
    exact call_int1 pins s σ H _ us Q I r (.inr ⟨i, rfl, q _ H (Same.refl H) (.int _)⟩)
  | .max, [.int i, .int j], hb, hx =>
    cases hb
    obtain ⟨x, y, rfl, h1, h2⟩ := hx.two
    obtain rfl := h1.int
    obtain rfl := h2.int
    exact call_max2 (hc rfl) pins s σ H _ us Q I r ⟨i, j, rfl, q _ H (Same.refl H) (.int _)⟩
  | .min, [.int i, .int j], hb, hx =>
    cases hb
    obtain ⟨x, y, rfl, h1, h2⟩ := hx.two
    obtain rfl := h1.int
    obtain rfl := h2.int
    exact call_min2 (hc rfl) pins s σ H _ us Q I r ⟨i, j, rfl, q _ H (Same.refl H) (.int _)⟩
  | .tuple, [.list ys], hb, hx =>
    cases hb
    obtain ⟨x, rfl, h⟩ := hx.one
    obtain ⟨p, vs, rfl, hs, hr⟩ := h.list
    exact call_tuple_of pins s σ H _ us Q I r ⟨p, vs, rfl, .inl ⟨hs, fun l hl => q _ _ (same_upd hl) (.tup (SqT.of upd_same) (hr.ext (.same (same_upd hl))))⟩⟩
  | .tuple, [.tuple ys], hb, hx =>
    cases hb
    obtain ⟨x, rfl, h⟩ := hx.one
    obtain ⟨p, vs, rfl, hs, hr⟩ := h.tup
    exact call_tuple_of pins s σ H _ us Q I r ⟨p, vs, rfl, .inr ⟨hs, q _ H (Same.refl H) (.tup hs hr)⟩⟩
  | .list, [.list ys], hb, hx =>
    cases hb
    obtain ⟨x, rfl, h⟩ := hx.one
    obtain ⟨p, vs, rfl, hs, hr⟩ := h.list
    exact call_list_of pins s σ H _ us Q I r ⟨p, vs, rfl, .inl hs, fun l hl => q l vs _ hl (same_upd hl) upd_same (hr.ext (.same (same_upd hl)))⟩
  | .list, [.tuple ys], hb, hx =>
    cases hb
    obtain ⟨x, rfl, h⟩ := hx.one
    obtain ⟨p, vs, rfl, hs, hr⟩ := h.tup
    exact call_list_of pins s σ H _ us Q I r ⟨p, vs, rfl, .inr hs, fun l hl => q l vs _ hl (same_upd hl) upd_same (hr.ext (.same (same_upd hl)))⟩
  | .sum, [.list ys], hb, hx =>
    obtain ⟨x, rfl, h⟩ := hx.one
    obtain ⟨p, vs, rfl, hs, hr⟩ := h.list
    obtain ⟨ns, e1, e2⟩ := Option.map_eq_some_iff.mp hb
    subst e2
    rw [rfs_ints e1 hr] at hs
    exact cr_sum (hc rfl) pins s σ H _ us Q I r ⟨p, ns, rfl, hs, q _ H (Same.refl H) (.int _)⟩
  | .any, [.list ys], hb, hx =>
    obtain ⟨x, rfl, h⟩ := hx.one
    obtain ⟨p, vs, rfl, hs, hr⟩ := h.list
    obtain ⟨ns, e1, e2⟩ := Option.map_eq_some_iff.mp hb
    subst e2
    rw [rfs_bools e1 hr] at hs
    exact cr_any (hc rfl) pins s σ H _ us Q I r ⟨p, ns, rfl, hs, q _ H (Same.refl H) (.bl _)⟩
  | .all, [.list ys], hb, hx =>
    obtain ⟨x, rfl, h⟩ := hx.one
    obtain ⟨p, vs, rfl, hs, hr⟩ := h.list
    obtain ⟨ns, e1, e2⟩ := Option.map_eq_some_iff.mp hb
    subst e2
    rw [rfs_bools e1 hr] at hs
    exact cr_all (hc rfl) pins s σ H _ us Q I r ⟨p, ns, rfl, hs, q _ H (Same.refl H) (.bl _)⟩
  | .abs, [.int i], hb, hx =>
    cases hb
    obtain ⟨x, rfl, h⟩ := hx.one
    obtain rfl := h.int
    exact call_abs pins s σ H _ us Q I r ⟨i, rfl, q _ H (Same.refl H) (.int _)⟩

/-! ### isinstance -/
def tyN : Ty → String
  | .int => "int"
  | .bool => "bool"
  | .str => "str"
  | .tuple => "tuple"
  | .list => "list"
def tyS : Ty → Str
  | .int => "int"
  | .bool => "bool"
  | .str => "str"
  | .tuple => "tuple"
  | .list => "list"
theorem tyB (t : Ty) : bootBuiltins (tyS t) = some (.type (tyN t)) := by cases t <;> decide +kernel
def datTy : PyData → String
  | .none => "NoneType"
  | .bool _ => "bool"
  | .int _ => "int"
  | .str _ => "str"
  | .list _ => "list"
  | .tuple _ => "tuple"
  | .dict _ => "list"
theorem tyx_of {K : PySem.W.Frag} {H : Hp} {x : V} {d : PyData} (h : RD K H x d) : TyX K H x (.type (datTy d)) := by
  cases d with
  | none => obtain rfl := h.non; exact .base .non
  | bool b => obtain rfl := h.bl; exact .base (.bl b)
  | int i => obtain rfl := h.int; exact .base (.int i)
  | str z => obtain rfl := h.str; exact .base (.str z)
  | list ds =>
    obtain ⟨a, vs, rfl, hs, _⟩ := h.list
    rcases hs with (hs | ⟨o, hs⟩) | ⟨o, its, n, hk, hc, _⟩
    · exact .base (.lst hs)
    · exact .base (.frz hs)
    · exact .kList hk hc
  | tuple ds =>
    obtain ⟨a, vs, rfl, hs, _⟩ := h.tup
    rcases hs with (hs | ⟨o, hs⟩) | ⟨o, its, n, hk, hc, _⟩
    · exact .base (.tup hs)
    · exact .fTuple hs
    · exact .kTuple hk hc
  | dict ds =>
    rcases h with h | ⟨a, vs, ds', rfl, e, _, _⟩
    · cases h with
      | scr hs hr =>
        rcases hs with ⟨o, hs⟩ | ⟨o, its, n, hk, hc, _⟩
        · exact .base (.frz hs)
        · exact .kList hk hc
    · cases e
theorem kit_data {K : PySem.W.Frag} (t : Ty) (d : PyData) (h : instOk d = true) : PySem.W.kitOne K (.type (datTy d)) (.type (tyN t)) = some (instD t d) := by
  cases d with
  | dict _ => cases h
  | _ => cases t <;> exact kit_ty (by simp only [datTy, tyN, instD]; decide +kernel)

/-! ### methods -/
def rApp (K : PySem.W.Frag) : V → List V → Hp → VK → Prop := fun x vs H Q => ∃ l xs y, x = .ref l ∧ vs = [y] ∧ H l = some (.lst xs) ∧ xs.length < sizeLine ∧ Q .non (upd H l (.lst (xs ++ [y])))
/-- xs.extend(ys), ys a list that can be read -/
def rExtR : V → List V → Hp → VK → Prop := fun x vs H Q => ∃ l b xs zs, x = .ref l ∧ vs = [.ref b] ∧ H l = some (.lst xs) ∧ Rd H b (.lst zs) ∧ xs.length + zs.length ≤ sizeLine ∧ Q .non (upd H l (.lst (xs ++ zs)))
theorem mt_extR : MtR X "list.extend" rExtR := by
  intro pins s σ H x vs v us Q I rx rv ⟨l, b, xs, zs, e1, e2, hH, hB, hz, q⟩
  subst e1 e2
  cases rx
  obtain ⟨u, rfl, ru⟩ := rv.one
  cases ru
  obtain ⟨z, its, n, r, hl, e⟩ := I.lstM hH
  obtain ⟨z2, its2, n2, r2, hl2, e3⟩ := rdLst I hB
  have hsz : its.toArray.size + its2.toArray.size ≤ sizeLine := by rw [List.size_toArray, List.size_toArray]; omega
  have hlong : ¬ (!its.toArray.isEmpty && Builtin.List.listTooLong (its.toArray.size + its2.toArray.size)) = true := by
    rw [notLongL hsz, Bool.and_false]
    exact Bool.false_ne_true
  refine call_meets F.slot_list_extend ⟨_, e, rfl⟩ F.entry_list_extend (F.args_list_extend_2 _ _)
    (AutoSeq1.list_extend_list_list_0 l its.toArray n b its2.toArray n2 hlong (by rw [List.size_toArray]; omega) (by omega)) ⟨e, e3, ?_⟩
  exact ⟨.non, _, I.lset (its' := its ++ its2) hH e (by simp) (r.append r2) (by rw [List.length_append]; omega), rfl, q⟩
end
end AM
set_option Elab.async false
set_option linter.all false
set_option maxRecDepth 100000
set_option maxHeartbeats 1000000
/-! AM5: what is walked. -/
namespace AM
open PySem PySem.Spec PyProof.Rows L2

/-! ### enumerate(list | tuple) -/
theorem enum_made {v : Value} {o : Obj} {B : Heap → Prop} (b : Begins v o B) :
    Meets (Builtin.«enumerate.__new__» ⟨[.type "enumerate", v], []⟩) (fun _ R s => B s.heap ∧
      R (.ok (.ret (.ref (s.heap.push o).objs.size))) { s with heap := (s.heap.push o).push { cls := .type "enumerate", data := .fields #[.none, .bool false, .ref s.heap.objs.size, rawInt 0, .none, .none] } }) :=
  .of_wp fun prog w A R s h => by
    obtain ⟨hp, g, d, tk, os⟩ := s
    obtain ⟨h1, h⟩ := h
    have hsub := sub_enumerate
    have q1 : ∀ {A' : Around} {E : Value → Shared → Prop} {Q : Value → Shared → Prop}, Q (.ref hp.objs.size) ⟨hp.push o, g, d, tk, os⟩ → wpAny (model prog w) A' (pyIter v) Q E ⟨hp, g, d, tk, os⟩ :=
      fun q => b.iter prog w _ _ ⟨hp, g, d, tk, os⟩ _ h1 q
    wp_walk using q1
    refine wpAny_stack_any fun st => wpAny_pure ?_
    split
    · rename_i c _ _ _ _ _
      cases (c == Value.type "enumerate") <;> (wp_walk using q1; exact ⟨_, rfl, h⟩)
    · wp_walk using q1
      exact ⟨_, rfl, h⟩
theorem enum_call {prog : Program} {w : World} {A : Around} {E : Value → Shared → Prop} {s : Shared} {v : Value} {o : Obj} {B : Heap → Prop} {Q : Value → Shared → Prop} (b : Begins v o B) (h1 : B s.heap)
    (h : ∀ h', IsEnum h' (s.heap.objs.size + 1) s.heap.objs.size 0 .none → h'.get? s.heap.objs.size = some o → h'.objs.size = s.heap.objs.size + 2 →
      (∀ b o, s.heap.get? b = some o → h'.get? b = some o) → Q (.ref (s.heap.objs.size + 1)) { s with heap := h' }) :
    wpAny (model prog w) A (call (.type "enumerate") [v]) Q E s := by
  refine callType_new F.called_enumerate (by decide) (F.typeCall_enumerate_1 _) (F.newCall_enumerate_1 _) (fun obj => F.args_object_init_2 obj _) F.entry_enumerate_new (enum_made b) ⟨h1, ?_⟩
  have hz : (s.heap.push o).objs.size = s.heap.objs.size + 1 := Heap.size_push ..
  show _ ∧ _
  rw [hz]
  have he : IsEnum ((s.heap.push o).push { cls := .type "enumerate", data := .fields #[.none, .bool false, .ref s.heap.objs.size, rawInt 0, .none, .none] }) (s.heap.objs.size + 1) s.heap.objs.size 0 .none := by
    have z := Heap.get?_push_size (s.heap.push o) (o := { cls := .type "enumerate", data := .fields #[.none, .bool false, .ref s.heap.objs.size, rawInt 0, .none, .none] }) rfl
    rw [hz] at z
    exact z
  refine ⟨⟨_, he, rfl⟩, h _ he (Heap.get?_push_of_some _ (Heap.get?_push_size _ b.free)) (by rw [Heap.size_push, hz]) fun b o x => Heap.get?_push_of_some _ (Heap.get?_push_of_some _ x)⟩

/-- the tuple at a, each item in a new pair -/
def ItnT (K : PySem.W.Frag) (a : Addr) : It :=
  ⟨fun i H => ∃ (xs : List V) (x : V), SqT K H a xs ∧ xs[i]? = some x, fun i H v H' => ∃ T x, v = .ref T ∧ H T = none ∧ H' = upd H T (.tup [.int (i : Nat), x]) ∧ ∀ xs, SqT K H a xs → xs[i]? = some x, fun i H => ∃ xs : List V, SqT K H a xs ∧ xs.length = i⟩
theorem turn_enumT {P : Program} {w : World} {K : PySem.W.Frag} {elts : List Expr} {kk : Nat} {tpos : Pos} (a e it : Addr) :
    Turn P w K (.Tuple elts kk tpos) (ItnT K a) [e, it] e (fun i h => (∃ old, IsEnum h e it ((i : Nat) : Int) old) ∧ h.IsTupleIter it a i ∧ e ≠ it ∧ a ≠ it ∧ e ≠ a) where
  mem := by simp
  obj := fun i h st b hb => by
    obtain ⟨⟨old, he⟩, ⟨o, ho, hc, hd⟩, _⟩ := st
    have e' : b = e ∨ b = it := by simpa using hb
    rcases e' with z | z
    · rw [z]; exact ⟨_, he, fun v q => nomatch q⟩
    · rw [z]; exact ⟨o, ho, fun v q => by rw [hd] at q; cases q⟩
  keep := fun i h h' st k => let ⟨⟨old, he⟩, hi, hne⟩ := st; ⟨⟨old, k e (by simp) _ he⟩, hi.at fun o q => k it (by simp) o q, hne⟩
  item := by
    intro X hP hw hK hc i pins s σ H E I hf st hg
    subst hP hw hK
    obtain ⟨⟨old, he⟩, hit, hne, hai, hea⟩ := st
    obtain ⟨xs, x, hq, hx⟩ := hg
    obtain ⟨its, rv, p, hz⟩ := I.tuple hq
    obtain ⟨u, hu, ru⟩ := rv.get hx
    have hel : e < s.heap.objs.size := Heap.lt_size he
    have hil : it < s.heap.objs.size := by obtain ⟨_, q, _⟩ := hit; exact Heap.lt_size q
    have hlt : i < its.toArray.size := by
      rw [List.size_toArray]
      exact (List.getElem?_eq_some_iff.mp hu).1
    have D := Draws.tuple (prog := X.prog) (w := X.w) (A := X.A.in1) (I.ok.hd hc) it a hai its.toArray
    refine wpAny_pyNext_enum_itemD D he ⟨hit, p⟩ hlt hne (by simp [hne, hea]) fun y h' tk hy ho hit' hT hsz hk => ?_
    obtain ⟨hit', _⟩ := hit'
    have ey : y = u := by
      have z : its.toArray[i]? = some u := by simpa using hu
      rw [hy] at z
      exact Option.some.inj z
    subst ey
    refine ⟨_, rfl, wpAny_letOwnedTupleGo_enum (s := { s with heap := h', toks := tk + 1 }) ho fun h'' he' sb => ?_⟩
    have hT2 : h''.get? s.heap.objs.size = some { cls := .type "tuple", data := .seq #[.int i tk, y] } := (sb.2 _ (Nat.ne_of_gt hel)).trans hT
    have new : ObjOk X.prog X.w (upd H s.heap.objs.size (.tup [.int (i : Nat), x])) h'' s.heap.objs.size (.tup [.int (i : Nat), x]) :=
      ⟨by show 2 ≤ sizeLine; decide, [.int i tk, y], .cons ⟨_, rfl⟩ (.cons ru .nil), ⟨_, hT2, rfl, _, rfl⟩⟩
    have I1 : Inv X pins σ (upd H s.heap.objs.size (.tup [.int (i : Nat), x])) { s with heap := h'', toks := tk + 1 } :=
      I.turnedNew (ch := [e, it]) (fun b ob hb q => (sb.2 b (fun z => hb (by simp [z]))).trans (hk b ob (fun z => hb (by simp [z])) (fun z => hb (by simp [z])) q)) hf (Nat.le_refl _) new
    refine ⟨.ref s.heap.objs.size, _, I1, rfl, ⟨_, x, rfl, I.hok.fresh (Nat.le_refl _), rfl, fun ys hy => by rw [I.tuple_inj hy hq]; exact hx⟩, ⟨⟨y, ?_⟩, hit'.at fun o q => (sb.2 it (Ne.symm hne)).trans q, hne, hai, hea⟩, fun b hb => ?_⟩
    · have e1 : ((i + 1 : Nat) : Int) = (i : Int) + 1 := by omega
      rw [e1]; exact he'
    · have hb' : b < s.heap.objs.size := by
        have e' : b = e ∨ b = it := by simpa using hb
        rcases e' with z | z
        · rw [z]; exact hel
        · rw [z]; exact hil
      rw [upd_ne (Nat.ne_of_lt hb')]
      exact (hf b hb).1
  done := by
    intro X hP hw hK hc i pins s σ H E I hf st hg
    subst hP hw hK
    obtain ⟨⟨old, he⟩, hit, hne, hai, hea⟩ := st
    obtain ⟨xs, hq, hx⟩ := hg
    obtain ⟨its, rv, p, hz⟩ := I.tuple hq
    obtain ⟨f0, f1, f2, f3, f4, f5⟩ := hf it (by simp)
    have hl := rv.length
    have D := Draws.tuple (prog := X.prog) (w := X.w) (A := X.A.in1) (I.ok.hd hc) it a hai its.toArray
    have hge : its.toArray.size = i := by rw [List.size_toArray]; omega
    refine wpAny_pyNext_enum_endD D he ⟨by rw [hge]; exact hit, p⟩ fun h' eb => ⟨rfl, I.turned (t' := s.toks) (fun b o hb q => eb b o hb q) f0 f1 f3 f4 f5⟩
  self := fun A i s Q E st h => let ⟨⟨_, he⟩, _⟩ := st; wpAny_pyIter_enum he h

/-- a list or a tuple, walked -/
def iSeq (K : PySem.W.Frag) (tl : TE) : TI := fun σ H R => tl σ H fun x H1 => ∃ a, x = .ref a ∧ ((∃ xs, SqL K H1 a xs ∧ R (Itl K a) H1) ∨ ∃ xs, SqT K H1 a xs ∧ R (Itt K a) H1)
theorem pi_seq {X : Cx} {tg l : Expr} {tl : TE} (hl : PE X l tl) : PI X tg l (iSeq X.K tl) := by
  refine ⟨fun pins s σ H R I h => ?_⟩
  refine thn (hl.run pins s σ H _ I h) fun v s1 ⟨x, H1, I1, r1, a, e, q1⟩ => ?_
  subst e
  cases r1
  rcases q1 with ⟨xs, hq, q⟩ | ⟨xs, hq, q⟩
  · obtain ⟨its, rv, p, hz⟩ := I1.list hq
    exact wpAny_pyIter_list p.isList (pi_one (tk := s1.toks) I1 _ (turn_list a _) ⟨_, Heap.get?_push_size _ rfl, rfl, rfl⟩ q)
  · obtain ⟨its, rv, p, hz⟩ := I1.tuple hq
    exact wpAny_pyIter_tuple (show s1.heap.IsTuple a its.toArray from p) (pi_one (tk := s1.toks) I1 _ (turn_tuple a _) ⟨_, Heap.get?_push_size _ rfl, rfl, rfl⟩ q)
def iEnm (K : PySem.W.Frag) (ta : TA) : TI := fun σ H R => ta σ H fun vs H1 => ∃ a, vs = [.ref a] ∧ ((∃ xs, SqL K H1 a xs ∧ R (Ite K a) H1) ∨ ∃ xs, SqT K H1 a xs ∧ R (ItnT K a) H1)
theorem pi_enm {X : Cx} {e : Expr} {ta : TA} {p pos tpos : Pos} {elts : List Expr} {kk : Nat} (hg : Gl X "enumerate") (hm : X.mg "enumerate" = none) (ha : PA X [e] ta) (hs : starEach [e] X.env = [(false, eval e X.env)]) :
    PI X (.Tuple elts kk tpos) (.Call (.Name "enumerate" p) [e] [] pos) (iEnm X.K ta) := by
  refine ⟨fun pins s σ H R I h => ?_⟩
  refine Call_ (ld_blt I hg hm boot_enumerate (PyProof.Rows.callWith_type1 (thn (ha.run pos pins s σ H _ I h) fun us s1 ⟨vs, H1, I1, r1, a, ev, q1⟩ => ?_) hs rfl))
  subst ev
  obtain rfl := Vals.ref1 r1
  have fresh2 : ∀ b ∈ [s1.heap.objs.size + 1, s1.heap.objs.size], FpOk X pins H1 b := fun b hb => by
    have hle : s1.heap.objs.size ≤ b := by
      rcases List.mem_cons.mp hb with z | z
      · omega
      · have z := List.mem_singleton.mp z
        omega
    exact I1.fpOk hle (I1.hok.fresh hle)
  rcases q1 with ⟨xs, hq, q⟩ | ⟨xs, hq, q⟩
  · obtain ⟨its, rv, p', hz⟩ := I1.list hq
    refine call_enumerate_list p'.isList fun h' he hit hsz hk => wpAny_pyIter_enum he ?_
    have I2 : Inv X pins σ H1 { s1 with heap := h' } := I1.kept (t' := s1.toks) hk
    exact ⟨s1.heap.objs.size + 1, _, _, _, H1, rfl, I2, turn_enum a (s1.heap.objs.size + 1) s1.heap.objs.size, ⟨⟨.none, he⟩, hit, Nat.succ_ne_self _⟩, fresh2, q⟩
  · obtain ⟨its, rv, p', hz⟩ := I1.tuple hq
    have hlt : a < s1.heap.objs.size := by
      obtain ⟨o, ho, _⟩ := p'
      exact Heap.lt_size ho
    refine enum_call (begins_tuple a its.toArray) (show s1.heap.IsTuple a its.toArray from p') fun h' he hit hsz hk => wpAny_pyIter_enum he ?_
    have I2 : Inv X pins σ H1 { s1 with heap := h' } := I1.kept (t' := s1.toks) hk
    exact ⟨s1.heap.objs.size + 1, _, _, _, H1, rfl, I2, turn_enumT a (s1.heap.objs.size + 1) s1.heap.objs.size, ⟨⟨.none, he⟩, ⟨_, hit, rfl, rfl⟩, Nat.succ_ne_self _, Nat.ne_of_lt hlt, Nat.ne_of_gt (Nat.lt_succ_of_lt hlt)⟩, fresh2, q⟩

/-! ### an iterator, by what the abstract machine says of it -/
/-- it gives the items of p, as long as the slots of p stand -/
def WD (C : Cn) (G : Gd) (σ : St) (H1 : Hp) (p : Src) (J : It) : Prop := ∃ (Gp : Hp → Prop) (Y : Nat → Hp → V → Hp → Prop), Walk J p.1.length Gp Y ∧
  (∀ s σ' H, Ext H1 H → Sim C G s σ' H → (∀ q ∈ p.2, σ'[q.1]? = σ[q.1]?) → chk p.2 s = true → Gp H) ∧ (∀ i H x H', i < p.1.length → Gp H → Y i H x H' → Same H H' ∧ ∃ d, p.1[i]? = some d ∧ Rf C.K H' x d)
def tI (C : Cn) (G : Gd) (W : Wish) (m : M Src) : TI := fun σ H R => ∃ s, Sim C G s σ H ∧ Run C G W σ H (m s) fun p s' H' => ∀ J, WD C G σ H' p J → R J H'
section
variable {C : Cn} {G : Gd} {σ : St} {H1 : Hp} {a : Addr} {ds : List PyData}
/-- the items at a list's place -/
theorem walkL : Walk (Itl C.K a) ds.length (fun H => ∃ vs, SqL C.K H a vs ∧ Rfs C.K H vs ds) (fun i H x H' => H' = H ∧ ∃ d, ds[i]? = some d ∧ Rf C.K H x d) := by
  refine ⟨fun i H hi ⟨vs, h1, h2⟩ => ?_, fun H ⟨vs, h1, h2⟩ => ⟨vs, h1, Nat.le_of_eq h2.length⟩, fun i H x H' hi ⟨vs, h1, h2⟩ y => ⟨y.1, ?_⟩⟩
  · obtain ⟨v, e, _⟩ := h2.get (i := i) (d := ds[i]) (by simp [hi])
    exact ⟨vs, v, h1, e⟩
  · obtain ⟨v, e, r⟩ := h2.get (i := i) (d := ds[i]) (by simp [hi])
    have z := y.2 vs h1
    rw [e] at z
    cases z
    exact ⟨ds[i], by simp [hi], r⟩
theorem walkT : Walk (Itt C.K a) ds.length (fun H => ∃ vs, SqT C.K H a vs ∧ Rfs C.K H vs ds) (fun i H x H' => H' = H ∧ ∃ d, ds[i]? = some d ∧ Rf C.K H x d) := by
  refine ⟨fun i H hi ⟨vs, h1, h2⟩ => ?_, fun H ⟨vs, h1, h2⟩ => ⟨vs, h1, Nat.le_of_eq h2.length⟩, fun i H x H' hi ⟨vs, h1, h2⟩ y => ⟨y.1, ?_⟩⟩
  · obtain ⟨v, e, _⟩ := h2.get (i := i) (d := ds[i]) (by simp [hi])
    exact ⟨vs, v, h1, e⟩
  · obtain ⟨v, e, r⟩ := h2.get (i := i) (d := ds[i]) (by simp [hi])
    have z := y.2 vs h1
    rw [e] at z
    cases z
    exact ⟨ds[i], by simp [hi], r⟩
theorem enumD_get : ∀ {ds : List PyData} {k i : Nat} {d : PyData}, ds[i]? = some d → (enumD k ds)[i]? = some (.tuple [.int ((k + i : Nat) : Int), d])
  | [], _, _, _, h => by simp at h
  | x :: r, k, 0, d, h => by simp at h; subst h; rfl
  | x :: r, k, i + 1, d, h => by
    show (enumD (k + 1) r)[i]? = _
    rw [enumD_get (by simpa using h)]
    congr 5
    omega
theorem enumD_len : ∀ (ds : List PyData) (k : Nat), (enumD k ds).length = ds.length
  | [], _ => rfl
  | x :: r, k => by unfold enumD; rw [List.length_cons, enumD_len r, List.length_cons]
theorem pairRf {K : PySem.W.Frag} {H : Hp} {T : Addr} {x y : V} {d e : PyData} (hn : H T = none) (h1 : Rf K H x d) (h2 : Rf K H y e) : Rf K (upd H T (.tup [x, y])) (.ref T) (.tuple [d, e]) :=
  .tup (SqT.of upd_same) (.cons (Rf.ext (.same (same_upd hn)) d x h1) (.cons (Rf.ext (.same (same_upd hn)) e y h2) .nil))
theorem walkEL : Walk (Ite C.K a) (enumD 0 ds).length (fun H => ∃ vs, SqL C.K H a vs ∧ Rfs C.K H vs ds) (fun i H x H' => Same H H' ∧ ∃ d, (enumD 0 ds)[i]? = some d ∧ Rf C.K H' x d) := by
  rw [enumD_len]
  refine ⟨fun i H hi ⟨vs, h1, h2⟩ => ?_, fun H ⟨vs, h1, h2⟩ => ⟨vs, h1, Nat.le_of_eq h2.length⟩, fun i H x H' hi ⟨vs, h1, h2⟩ y => ?_⟩
  · obtain ⟨v, e, _⟩ := h2.get (i := i) (d := ds[i]) (by simp [hi])
    exact ⟨vs, v, h1, e⟩
  · obtain ⟨v, e, r⟩ := h2.get (i := i) (d := ds[i]) (by simp [hi])
    obtain ⟨T, z, rfl, hT, rfl, hz⟩ := y
    have q := hz vs h1
    rw [e] at q
    cases q
    refine ⟨same_upd hT, _, enumD_get (d := ds[i]) (by simp [hi]), ?_⟩
    rw [Nat.zero_add]
    exact pairRf hT (.int _) r
theorem walkET : Walk (ItnT C.K a) (enumD 0 ds).length (fun H => ∃ vs, SqT C.K H a vs ∧ Rfs C.K H vs ds) (fun i H x H' => Same H H' ∧ ∃ d, (enumD 0 ds)[i]? = some d ∧ Rf C.K H' x d) := by
  rw [enumD_len]
  refine ⟨fun i H hi ⟨vs, h1, h2⟩ => ?_, fun H ⟨vs, h1, h2⟩ => ⟨vs, h1, h2.length⟩, fun i H x H' hi ⟨vs, h1, h2⟩ y => ?_⟩
  · obtain ⟨v, e, _⟩ := h2.get (i := i) (d := ds[i]) (by simp [hi])
    exact ⟨vs, v, h1, e⟩
  · obtain ⟨v, e, r⟩ := h2.get (i := i) (d := ds[i]) (by simp [hi])
    obtain ⟨T, z, rfl, hT, rfl, hz⟩ := y
    have q := hz vs h1
    rw [e] at q
    cases q
    refine ⟨same_upd hT, _, enumD_get (d := ds[i]) (by simp [hi]), ?_⟩
    rw [Nat.zero_add]
    exact pairRf hT (.int _) r
theorem zipD_get : ∀ {xs ys : List PyData} {i : Nat} {d e : PyData}, xs[i]? = some d → ys[i]? = some e → (zipD xs ys)[i]? = some (.tuple [d, e])
  | [], _, _, _, _, h, _ => by simp at h
  | _ :: _, [], _, _, _, _, h => by simp at h
  | x :: xs, y :: ys, 0, _, _, h, k => by simp at h k; subst h k; rfl
  | x :: xs, y :: ys, i + 1, _, _, h, k => by
    show (zipD xs ys)[i]? = _
    exact zipD_get (by simpa using h) (by simpa using k)
theorem zipD_len : ∀ (xs ys : List PyData), (zipD xs ys).length = min xs.length ys.length
  | [], _ => by simp [zipD]
  | _ :: _, [] => by simp [zipD]
  | x :: xs, y :: ys => by unfold zipD; rw [List.length_cons, zipD_len xs ys, List.length_cons, List.length_cons]; omega
variable {b : Addr} {es : List PyData}
theorem walkZL : Walk (Itz C.K a b) (zipD ds es).length (fun H => (∃ vs, SqL C.K H a vs ∧ Rfs C.K H vs ds) ∧ ∃ vs, SqL C.K H b vs ∧ Rfs C.K H vs es) (fun i H x H' => Same H H' ∧ ∃ d, (zipD ds es)[i]? = some d ∧ Rf C.K H' x d) := by
  rw [zipD_len]
  refine ⟨fun i H hi ⟨⟨vs, h1, h2⟩, ws, g1, g2⟩ => ?_, fun H ⟨⟨vs, h1, h2⟩, ws, g1, g2⟩ => ⟨vs, ws, h1, g1, by rw [h2.length, g2.length]; omega⟩, fun i H x H' hi ⟨⟨vs, h1, h2⟩, ws, g1, g2⟩ y => ?_⟩
  · have i1 : i < ds.length := by omega
    have i2 : i < es.length := by omega
    obtain ⟨v, e, _⟩ := h2.get (i := i) (d := ds[i]) (by simp [i1])
    obtain ⟨u, f, _⟩ := g2.get (i := i) (d := es[i]) (by simp [i2])
    exact ⟨vs, ws, v, u, h1, g1, e, f⟩
  · have i1 : i < ds.length := by omega
    have i2 : i < es.length := by omega
    obtain ⟨v, e, r⟩ := h2.get (i := i) (d := ds[i]) (by simp [i1])
    obtain ⟨u, f, r'⟩ := g2.get (i := i) (d := es[i]) (by simp [i2])
    obtain ⟨T, z, z', rfl, hT, rfl, hz, hz'⟩ := y
    have q := hz vs h1
    rw [e] at q
    cases q
    have q := hz' ws g1
    rw [f] at q
    cases q
    exact ⟨same_upd hT, _, zipD_get (d := ds[i]) (e := es[i]) (by simp [i1]) (by simp [i2]), pairRf hT r r'⟩
theorem walkZT : Walk (RZ.ItzT C.K a b) (zipD ds es).length (fun H => (∃ vs, SqT C.K H a vs ∧ Rfs C.K H vs ds) ∧ ∃ vs, SqT C.K H b vs ∧ Rfs C.K H vs es) (fun i H x H' => Same H H' ∧ ∃ d, (zipD ds es)[i]? = some d ∧ Rf C.K H' x d) := by
  rw [zipD_len]
  refine ⟨fun i H hi ⟨⟨vs, h1, h2⟩, ws, g1, g2⟩ => ?_, fun H ⟨⟨vs, h1, h2⟩, ws, g1, g2⟩ => ⟨vs, ws, h1, g1, by rw [h2.length, g2.length]; omega⟩, fun i H x H' hi ⟨⟨vs, h1, h2⟩, ws, g1, g2⟩ y => ?_⟩
  · have i1 : i < ds.length := by omega
    have i2 : i < es.length := by omega
    obtain ⟨v, e, _⟩ := h2.get (i := i) (d := ds[i]) (by simp [i1])
    obtain ⟨u, f, _⟩ := g2.get (i := i) (d := es[i]) (by simp [i2])
    exact ⟨vs, ws, v, u, h1, g1, e, f⟩
  · have i1 : i < ds.length := by omega
    have i2 : i < es.length := by omega
    obtain ⟨v, e, r⟩ := h2.get (i := i) (d := ds[i]) (by simp [i1])
    obtain ⟨u, f, r'⟩ := g2.get (i := i) (d := es[i]) (by simp [i2])
    obtain ⟨T, z, z', rfl, hT, rfl, hz, hz'⟩ := y
    have q := hz vs h1
    rw [e] at q
    cases q
    have q := hz' ws g1
    rw [f] at q
    cases q
    exact ⟨same_upd hT, _, zipD_get (d := ds[i]) (e := es[i]) (by simp [i1]) (by simp [i2]), pairRf hT r r'⟩
theorem rangeD_get {lo hi : Int} {i : Nat} (h : i < (hi - lo).toNat) : (rangeD lo hi)[i]? = some (.int (lo + (i : Nat))) := by
  unfold rangeD
  rw [List.getElem?_map, List.getElem?_range h]
  rfl
theorem wd_range {lo hi : Int} : WD C G σ H1 (rangeD lo hi, []) (Itr lo (hi - lo).toNat) := by
  have len : (rangeD lo hi).length = (hi - lo).toNat := by unfold rangeD; rw [List.length_map, List.length_range]
  refine ⟨fun _ => True, _, by rw [show (rangeD lo hi, ([] : List (Nat × List PyData))).1.length = (hi - lo).toNat from len]; exact walk_range, fun _ _ _ _ _ _ _ => True.intro, fun i H x H' hi' _ y => ?_⟩
  obtain ⟨rfl, rfl⟩ := y
  have hi'' : i < (hi - lo).toNat := by rw [← len]; exact hi'
  exact ⟨Same.refl _, _, rangeD_get hi'', .int _⟩
/-- the place of a list that may be walked: what must stand that it is read alike -/
theorem list_stays {av : AV} {v : V} (r : RN C σ H1 v av) (hs : ∃ s, Sim C G s σ H1 ∧ rdo s av = some (.list ds)) : ∃ a, v = .ref a ∧
    ∀ s σ' H, Ext H1 H → Sim C G s σ' H → (∀ q ∈ gd av ds, σ'[q.1]? = σ[q.1]?) → chk (gd av ds) s = true → ∃ vs, SqL C.K H a vs ∧ Rfs C.K H vs ds := by
  obtain ⟨s0, S0, e0⟩ := hs
  cases av with
  | val d =>
    cases e0
    cases r with
    | lst h1 h2 => exact ⟨_, rfl, fun s σ' H e _ _ _ => ⟨_, (h1.ext e).sq, h2.ext e⟩⟩
  | bor i =>
    have r : σ[i]? = some (some v) := r
    obtain ⟨a, vs, rfl, _, _⟩ := (rd_of S0 (a := .bor i) r e0).list
    refine ⟨a, rfl, fun s σ' H e S hq hc => ?_⟩
    have h1 : σ'[i]? = some (some (.ref a)) := by rw [hq (i, ds) (by simp [gd])]; exact r
    unfold chk at hc
    simp only [gd, List.all_cons, List.all_nil, Bool.and_true] at hc
    cases q : sl s i with
    | none => rw [q] at hc; simp at hc
    | some sv =>
      rw [q] at hc
      obtain ⟨v', z1, z2⟩ := S.slot i sv q
      rw [h1] at z1
      cases z1
      cases sv with
      | own b xs =>
        have e1 : xs = ds := by simpa using hc
        subst e1
        obtain ⟨a', vs', e2, h2, h3, _⟩ := z2
        cases e2
        exact ⟨vs', SqL.of h2, h3⟩
      | val d =>
        have e1 : d = .list ds := by simpa using hc
        subst e1
        cases z2 with
        | lst g1 g2 => exact ⟨_, g1.sq, g2⟩
      | exc c w => simp at hc
  | new xs => exact r.elim
theorem tup_stays {d : PyData} {v : V} (r : RD C.K H1 v (.tuple ds)) : ∃ a, v = .ref a ∧ ∀ H, Ext H1 H → ∃ vs, SqT C.K H a vs ∧ Rfs C.K H vs ds := by
  obtain ⟨a, vs, rfl, h1, h2⟩ := r.tup
  exact ⟨a, rfl, fun H e => ⟨vs, SqT.ext e h1, h2.ext e⟩⟩
end
end AM
set_option Elab.async false
set_option linter.all false
set_option maxRecDepth 100000
set_option maxHeartbeats 1000000
/-! AM6: the constructs of expressions, one rule each. -/
namespace AM
open PySem PySem.Spec PyProof.Rows L2

/-! ### what is given back is data or a new list -/
def nbor : AV → Prop
  | .bor _ => False
  | _ => True
theorem nbor.ne {a : AV} (h : nbor a) : ∀ i, a ≠ .bor i := fun i e => by rw [e] at h; exact h
theorem binD_nb {o : BOp} {d e : PyData} {a : AV} (h : binD o d e = some a) : ∀ i, a ≠ .bor i := by
  refine nbor.ne ?_
  revert h
  unfold binD
  split <;> intro h
  all_goals first
    | (split at h <;> first | (injection h with h; subst h; trivial) | cases h)
    | (injection h with h; subst h; trivial)
    | cases h
theorem slcD_nb {d : PyData} {l u : Option Int} {a : AV} (h : slcD d l u = some a) : ∀ i, a ≠ .bor i := by
  refine nbor.ne ?_
  revert h
  unfold slcD
  split <;> intro h
  all_goals first
    | (injection h with h; subst h; trivial)
    | cases h
theorem revD_nb {d : PyData} {a : AV} (h : revD d = some a) : ∀ i, a ≠ .bor i := by
  refine nbor.ne ?_
  revert h
  unfold revD
  split <;> intro h
  all_goals first
    | (injection h with h; subst h; trivial)
    | cases h
theorem bltD_nb {b : Blt} {ds : List PyData} {a : AV} (h : bltD b ds = some a) : ∀ i, a ≠ .bor i := by
  refine nbor.ne ?_
  revert h
  unfold bltD
  split <;> intro h
  all_goals first
    | (split at h <;> first | (injection h with h; subst h; trivial) | cases h)
    | (injection h with h; subst h; trivial)
    | cases h
    | (rw [Option.map_eq_some_iff] at h; obtain ⟨_, _, rfl⟩ := h; trivial)

theorem Lk.join {P : Hp → Prop} {H : Hp} (l : Lk (Lk P) H) : Lk P H := by
  induction l with
  | now p => exact p
  | frz ha _ ih => exact .frz ha ih

/-! ### readings -/
def tDs (C : Cn) (G : Gd) (W : Wish) (m : M (List PyData)) : TA := fun σ H Q => ∃ s, Sim C G s σ H ∧ Run C G W σ H (m s) fun ds s' H' => ∀ vs, Rfs C.K H' vs ds → Q vs H'
def tPo (C : Cn) (G : Gd) (W : Wish) (m : M (Option Int)) : TO := fun σ H Q => ∃ s, Sim C G s σ H ∧ Run C G W σ H (m s) fun o s' H' => Q o H'

section
variable {X : Cx} {C : Cn} {G : Gd} {W : Wish} {Φ : Calls} {a b c e : Expr} {es rest : List Expr} {pos : Pos} {m n p : M AV}

/-- a reading that gives data -/
theorem tA_val {σ : St} {H : Hp} {s : AS} {d : PyData} {v : V} {Q : VK} (S : Sim C G s σ H) (q : Run C G W σ H (.ok (AV.val d) s) fun a s' H' => ∀ v, RA C G s' σ H' v a → Q v H') (r : Rf C.K H v d) : Q v H := Run.now q S v r

theorem k_var {i : Nat} {x : Str} (hN : X.N[i]? = some x) (hv : Vis X.env.scope x) (hd : (x == ("__debug__" : Str)) = false) (hcd : (x == ("__classdict__" : Str)) = false) : PE X (.Name x pos) (tA C G W (ev Φ (.var i))) := by
  refine pe_imp (pe_var hN hv hd hcd) fun σ H Q ⟨s, S, q⟩ => ?_
  unfold ev at q
  cases h : sl s i with
  | none => rw [h] at q; exact False.elim q
  | some sv =>
    rw [h] at q
    obtain ⟨v, z1, z2⟩ := S.slot i sv h
    refine ⟨v, z1, ?_⟩
    cases sv with
    | val d => exact Run.now q S v z2
    | own b xs => exact Run.now q S v z1
    | exc c w => exact False.elim q
theorem k_int {i : Int} {j} : PE X (.Constant (.int i) j pos) (tA C G W (ev Φ (.lit (.int i)))) := pe_imp pe_int fun σ H Q ⟨s, S, q⟩ => by
  unfold ev at q
  exact Run.now q S _ (.int i)
theorem k_bl {i : Bool} {j} : PE X (.Constant (.bool i) j pos) (tA C G W (ev Φ (.lit (.bool i)))) := pe_imp pe_bl fun σ H Q ⟨s, S, q⟩ => by
  unfold ev at q
  exact Run.now q S _ (.bl i)
theorem k_str {i : Str} {j} : PE X (.Constant (.str i) j pos) (tA C G W (ev Φ (.lit (.str i)))) := pe_imp pe_str fun σ H Q ⟨s, S, q⟩ => by
  unfold ev at q
  exact Run.now q S _ (.str i)
theorem k_non {j} : PE X (.Constant .none j pos) (tA C G W (ev Φ (.lit .none))) := pe_imp pe_non fun σ H Q ⟨s, S, q⟩ => by
  unfold ev at q
  exact Run.now q S _ .non
theorem k_glb {x : Str} {i : Int} {t : Tok} (hg : Gl X x) (hm : X.mg x = some (.int i t)) (hd : (x == ("__debug__" : Str)) = false) : PE X (.Name x pos) (tA C G W (ev Φ (.glb x (.int i)))) := pe_imp (pe_glob hg hm (v := .int i) ⟨t, rfl⟩ hd) fun σ H Q ⟨s, S, q⟩ => by
  unfold ev at q
  exact Run.now q S _ (.int i)
theorem k_neg (ha : PE X a (tA C G W (ev Φ e1))) : PE X (.UnaryOp .USub a pos) (tA C G W (ev Φ (.neg e1))) := by
  refine pe_imp (pe_un un_neg (pe_opn ha)) fun σ H Q ⟨s, S, q⟩ => ?_
  unfold ev at q
  refine ⟨s, S, (Run.bnd q).imp fun x s1 H1 e1 S1 q1 v r1 => ?_⟩
  obtain ⟨d, r2, q2⟩ := Run.rd q1 S1 r1
  cases d with
  | int i => exact ⟨i, r2.int, Run.now q2 S1 _ (.int _)⟩
  | none => exact False.elim q2
  | bool _ => exact False.elim q2
  | str _ => exact False.elim q2
  | list _ => exact False.elim q2
  | tuple _ => exact False.elim q2
  | dict _ => exact False.elim q2
/-- truth of what is read -/
theorem tr_run0 {σ : St} {H : Hp} {s : AS} {v : V} {x : AV} {k : Bool → AS → Hp → Prop} (S : Sim C G s σ H) (r : RN C σ H v x) (q : Run C G W σ H (trA x s) k) : ∃ b, TruV C.K v H b ∧ k b s H := by
  unfold trA at q
  obtain ⟨d, r2, q2⟩ := Run.rd q S r
  obtain ⟨b, eb, q3⟩ := Run.lift1 q2
  exact ⟨b, tru_of r2 eb, Run.now q3 S⟩
theorem tr_run (hK : X.K = C.K) {σ : St} {H : Hp} {s : AS} {v : V} {x : AV} {k : Bool → AS → Hp → Prop} (S : Sim C G s σ H) (r : RN C σ H v x) (q : Run C G W σ H (trA x s) k) : ∃ b, TruV X.K v H b ∧ k b s H := by
  unfold trA at q
  obtain ⟨d, r2, q2⟩ := Run.rd q S r
  obtain ⟨b, eb, q3⟩ := Run.lift1 q2
  exact ⟨b, by rw [hK]; exact tru_of r2 eb, Run.now q3 S⟩
theorem k_nt (hK : X.K = C.K) (ha : PE X a (tA C G W (ev Φ e1))) : PE X (.UnaryOp .Not a pos) (tA C G W (ev Φ (.nt e1))) := by
  refine pe_imp (pe_notT (pe_opn ha)) fun σ H Q ⟨s, S, q⟩ => ?_
  unfold ev at q
  refine ⟨s, S, (Run.bnd (Run.bnd q)).imp fun x s1 H1 e1 S1 q1 v r1 => ?_⟩
  obtain ⟨b, tb, q2⟩ := tr_run hK S1 r1 q1
  exact ⟨b, tb, Run.now q2 S1 _ (.bl _)⟩
theorem k_an1 {op} (ha : PE X a (tA C G W (ev Φ e1))) : PE X (.BoolOp op [a] pos) (tA C G W (evAn Φ (.cons e1 .nil))) := pe_imp (pe_one ha) fun σ H Q ⟨s, S, q⟩ => ⟨s, S, by unfold evAn at q; exact q⟩
theorem k_or1 {op} (ha : PE X a (tA C G W (ev Φ e1))) : PE X (.BoolOp op [a] pos) (tA C G W (evOr Φ (.cons e1 .nil))) := pe_imp (pe_one ha) fun σ H Q ⟨s, S, q⟩ => ⟨s, S, by unfold evOr at q; exact q⟩
theorem RN.ra {σ : St} {H : Hp} {s : AS} {v : V} {x : AV} (h : RN C σ H v x) : RA C G s σ H v x := by
  cases x with
  | val d => exact h
  | bor i => exact h
  | new xs => exact h.elim
theorem k_an (hK : X.K = C.K) (ha : PE X a (tA C G W (ev Φ e1))) (hb : PE X (.BoolOp .And (b :: rest) pos) (tA C G W (evAn Φ (.cons e2 e3)))) : PE X (.BoolOp .And (a :: b :: rest) pos) (tA C G W (evAn Φ (.cons e1 (.cons e2 e3)))) := by
  refine pe_imp (pe_andT (pe_opn ha) hb) fun σ H Q ⟨s, S, q⟩ => ?_
  unfold evAn at q
  refine ⟨s, S, (Run.bnd q).imp fun x s1 H1 e1 S1 q1 v r1 => ?_⟩
  obtain ⟨k, tk, q2⟩ := tr_run (k := fun k s H' => Run C G W σ H' ((if k = true then evAn Φ (.cons e2 e3) else ret x) s) fun a s' H' => ∀ v, RA C G s' σ H' v a → Q v H') hK S1 r1 (Run.bnd q1)
  refine ⟨k, tk, ?_⟩
  cases k with
  | true => exact ⟨s1, S1, q2⟩
  | false => exact Run.now q2 S1 v r1.ra
theorem k_or (hK : X.K = C.K) (ha : PE X a (tA C G W (ev Φ e1))) (hb : PE X (.BoolOp .Or (b :: rest) pos) (tA C G W (evOr Φ (.cons e2 e3)))) : PE X (.BoolOp .Or (a :: b :: rest) pos) (tA C G W (evOr Φ (.cons e1 (.cons e2 e3)))) := by
  refine pe_imp (pe_orT (pe_opn ha) hb) fun σ H Q ⟨s, S, q⟩ => ?_
  unfold evOr at q
  refine ⟨s, S, (Run.bnd q).imp fun x s1 H1 e1 S1 q1 v r1 => ?_⟩
  obtain ⟨k, tk, q2⟩ := tr_run (k := fun k s H' => Run C G W σ H' ((if k = true then ret x else evOr Φ (.cons e2 e3)) s) fun a s' H' => ∀ v, RA C G s' σ H' v a → Q v H') hK S1 r1 (Run.bnd q1)
  refine ⟨k, tk, ?_⟩
  cases k with
  | false => exact ⟨s1, S1, q2⟩
  | true => exact Run.now q2 S1 v r1.ra
theorem k_anE (h : PE X e (tA C G W (evAn Φ l))) : PE X e (tA C G W (ev Φ (.an l))) := pe_imp h fun σ H Q ⟨s, S, q⟩ => ⟨s, S, by unfold ev at q; exact q⟩
theorem k_orE (h : PE X e (tA C G W (evOr Φ l))) : PE X e (tA C G W (ev Φ (.orr l))) := pe_imp h fun σ H Q ⟨s, S, q⟩ => ⟨s, S, by unfold ev at q; exact q⟩
theorem k_ite (ht : PT X c (tBo C G W (tst Φ e1))) (ha : PE X a (tA C G W (ev Φ e2))) (hb : PE X b (tA C G W (ev Φ e3))) : PE X (.IfExp c a b pos) (tA C G W (ev Φ (.ite e1 e2 e3))) := by
  refine pe_imp (pe_ifExp ht ha hb) fun σ H Q ⟨s, S, q⟩ => ?_
  unfold ev at q
  refine ⟨s, S, (Run.bnd q).imp fun x s1 H1 e1 S1 q1 => ?_⟩
  cases x with
  | true => exact ⟨s1, S1, q1⟩
  | false => exact ⟨s1, S1, q1⟩
theorem k_bin {o : BOp} (hK : X.K = C.K) (ha : PE X a (tA C G W m)) (hb : PE X b (tA C G W n)) : PE X (.BinOp a (opr o) b pos) (tA C G W (bin2 o m n)) := by
  refine pe_imp (pe_op (op_bin o) (pe_opn ha) (pe_opn hb)) fun σ H Q ⟨s, S, q⟩ => ?_
  refine ⟨s, S, (Run.bnd q).imp fun x s1 H1 e1 S1 q1 v r1 => ⟨s1, S1, (Run.bnd q1).imp fun y s2 H2 e2 S2 q2 u r2 => ?_⟩⟩
  obtain ⟨d, r3, q3⟩ := Run.rd q2 S2 (r1.ext e2)
  obtain ⟨f, r4, q4⟩ := Run.rd q3 S2 r2
  obtain ⟨z, ez, q5⟩ := Run.lift1 q4
  unfold rBin
  rw [hK]
  exact ⟨d, f, z, r3, r4, ez, AVp.of S2 (binD_nb ez) q5⟩
theorem cmp_run {o : COp} (hK : X.K = C.K) {σ : St} {H : Hp} {R : Bool → AS → Hp → Prop} {Q : VK} {s : AS} (S : Sim C G s σ H) (q : Run C G W σ H (cmp2 o m n s) R) (i : ∀ k s' H', Sim C G s' σ H' → R k s' H' → Q (.bl k) H') :
    tOp (rCmp X.K o) (tN C G W (opn m)) (tN C G W (opn n)) σ H Q := by
  refine ⟨s, S, (Run.bnd q).imp fun x s1 H1 e1 S1 q1 v r1 => ⟨s1, S1, (Run.bnd q1).imp fun y s2 H2 e2 S2 q2 u r2 => ?_⟩⟩
  obtain ⟨d, r3, q3⟩ := Run.rd q2 S2 (r1.ext e2)
  obtain ⟨f, r4, q4⟩ := Run.rd q3 S2 r2
  obtain ⟨z, ez, q5⟩ := Run.lift1 q4
  unfold rCmp
  rw [hK]
  exact ⟨d, f, z, r3, r4, ez, i z _ _ S2 (Run.now q5 S2)⟩
theorem k_cmp {o : COp} (hK : X.K = C.K) (hu : X.A.units + 64 < cLine) (ha : PE X a (tA C G W (ev Φ e1))) (hb : PE X b (tA C G W (ev Φ e2))) : PE X (.Compare a [copr o] [b] pos) (tA C G W (ev Φ (.cmp o e1 e2))) := by
  refine pe_imp (pe_cmpR (op_cmp hu o) (pe_opn ha) (pe_opn hb) (by cases o <;> exact nobehind _ (by decide) (by decide))) fun σ H Q ⟨s, S, q⟩ => ?_
  unfold ev at q
  exact cmp_run hK S (Run.bnd q) fun k s' H' S' r => Run.now r S' _ (.bl k)
theorem kt_cmp {o : COp} (hK : X.K = C.K) (hu : X.A.units + 64 < cLine) (ha : PE X a (tA C G W (ev Φ e1))) (hb : PE X b (tA C G W (ev Φ e2))) : PT X (.Compare a [copr o] [b] pos) (tBo C G W (tst Φ (.cmp o e1 e2))) := by
  refine pt_imp (pt_cmpR (op_cmp hu o) (pe_opn ha) (pe_opn hb) (by cases o <;> exact nobehind _ (by decide) (by decide))) fun σ H Q ⟨s, S, q⟩ => ?_
  unfold tst at q
  exact cmp_run hK S q fun k s' H' S' r => ⟨k, rfl, r⟩
theorem chn_run {o o' : COp} (hK : X.K = C.K) {σ : St} {H : Hp} {R : Bool → AS → Hp → Prop} {Q : VK} {s : AS} (S : Sim C G s σ H) (q : Run C G W σ H (chn3 o o' m n p s) R) (i : ∀ k s' H', Sim C G s' σ H' → R k s' H' → Q (.bl k) H') :
    tChain (rCmp X.K o) (rCmp X.K o') (tN C G W (opn m)) (tN C G W (opn n)) (tN C G W (opn p)) σ H Q := by
  refine ⟨s, S, (Run.bnd q).imp fun x s1 H1 e1 S1 q1 v r1 => ⟨s1, S1, (Run.bnd q1).imp fun y s2 H2 e2 S2 q2 u r2 => ?_⟩⟩
  obtain ⟨d, r3, q3⟩ := Run.rd q2 S2 (r1.ext e2)
  obtain ⟨f, r4, q4⟩ := Run.rd q3 S2 r2
  obtain ⟨k, ek, q5⟩ := Run.lift q4
  unfold rCmp
  rw [hK]
  refine ⟨d, f, k, r3, r4, ek, k, rfl, ?_⟩
  cases k with
  | false => exact i false _ _ S2 (Run.now q5 S2)
  | true =>
    refine ⟨s2, S2, (Run.bnd q5).imp fun z s3 H3 e3 S3 q6 w r5 => ?_⟩
    obtain ⟨g, r6, q7⟩ := Run.rd q6 S3 (r2.ext e3)
    obtain ⟨h, r7, q8⟩ := Run.rd q7 S3 r5
    obtain ⟨k', ek', q9⟩ := Run.lift1 q8
    exact ⟨g, h, k', r6, r7, ek', i k' _ _ S3 (Run.now q9 S3)⟩
theorem copr_marks {o o' : COp} : lastMarks [copr o, copr o'] [b, c] = false := by
  show behindInMarks (copr o') c = false
  cases o' <;> exact nobehind _ (by decide) (by decide)
theorem k_chn {o o' : COp} (hK : X.K = C.K) (hu : X.A.units + 64 < cLine) (ha : PE X a (tA C G W (ev Φ e1))) (hb : PE X b (tA C G W (ev Φ e2))) (hc : PE X c (tA C G W (ev Φ e3))) : PE X (.Compare a [copr o, copr o'] [b, c] pos) (tA C G W (ev Φ (.chn o o' e1 e2 e3))) := by
  refine pe_imp (pe_chain (op_cmp hu o) (op_cmp hu o') (pe_opn ha) (pe_opn hb) (pe_opn hc) copr_marks) fun σ H Q ⟨s, S, q⟩ => ?_
  unfold ev at q
  exact chn_run hK S (Run.bnd q) fun k s' H' S' r => Run.now r S' _ (.bl k)
theorem kt_chn {o o' : COp} (hK : X.K = C.K) (hu : X.A.units + 64 < cLine) (ha : PE X a (tA C G W (ev Φ e1))) (hb : PE X b (tA C G W (ev Φ e2))) (hc : PE X c (tA C G W (ev Φ e3))) : PT X (.Compare a [copr o, copr o'] [b, c] pos) (tBo C G W (tst Φ (.chn o o' e1 e2 e3))) := by
  refine pt_imp (pt_chain (op_cmp hu o) (op_cmp hu o') (pe_opn ha) (pe_opn hb) (pe_opn hc) copr_marks) fun σ H Q ⟨s, S, q⟩ => ?_
  unfold tst at q
  exact chn_run hK S q fun k s' H' S' r => ⟨k, rfl, r⟩
theorem rd_isNone {K : PySem.W.Frag} {H : Hp} {v : V} {d : PyData} (h : RD K H v d) : decide (v = .non) = isNone d := by
  rcases h with h | ⟨a, vs, ds, rfl, rfl, h, r⟩
  · cases h <;> rfl
  · rfl
theorem isN_pc {k : Bool} {σ : St} {H : Hp} {R : AV → AS → Hp → Prop} {Q : VK} {s : AS} (S : Sim C G s σ H) (q : Run C G W σ H (ev Φ (.isN k e1) s) R) (i : ∀ k s' H', Sim C G s' σ H' → R (.val (.bool k)) s' H' → Q (.bl k) H') :
    (if k = true then tIsN (tN C G W (opn (ev Φ e1))) else tNotN (tN C G W (opn (ev Φ e1)))) σ H Q := by
  unfold ev at q
  cases k with
  | true =>
    refine ⟨s, S, (Run.bnd q).imp fun x s1 H1 e1 S1 q1 v r1 => ?_⟩
    obtain ⟨d, r3, q3⟩ := Run.rd q1 S1 r1
    rw [rd_isNone r3]
    have z := i _ _ _ S1 (Run.now q3 S1)
    simpa using z
  | false =>
    refine ⟨s, S, (Run.bnd q).imp fun x s1 H1 e1 S1 q1 v r1 => ?_⟩
    obtain ⟨d, r3, q3⟩ := Run.rd q1 S1 r1
    rw [rd_isNone r3]
    have z := i _ _ _ S1 (Run.now q3 S1)
    simpa using z
def isOp (k : Bool) : CmpOp := if k then .Is else .IsNot
theorem k_isN {k : Bool} {j pos'} (ha : PE X a (tA C G W (ev Φ e1))) : PE X (.Compare a [isOp k] [.Constant .none j pos'] pos) (tA C G W (ev Φ (.isN k e1))) := by
  cases k with
  | true => exact pe_imp (pe_cmp (pc_isN (pe_opn ha))) fun σ H Q ⟨s, S, q⟩ => isN_pc (k := true) S q fun k s' H' S' r => r _ (.bl k)
  | false => exact pe_imp (pe_cmp (pc_notN (pe_opn ha))) fun σ H Q ⟨s, S, q⟩ => isN_pc (k := false) S q fun k s' H' S' r => r _ (.bl k)
theorem tst_isN {k : Bool} {e1 : E} {s : AS} {σ : St} {H : Hp} {R : Bool → AS → Hp → Prop} (q : Run C G W σ H (tst Φ (.isN k e1) s) R) : Run C G W σ H (ev Φ (.isN k e1) s) fun a s' H' => ∀ b, a = .val (.bool b) → R b s' H' := by
  unfold tst at q
  refine (Run.bnd (Run.bnd q)).imp fun x s1 H1 e1 S1 q1 b eb => ?_
  subst eb
  have q2 := Run.now q1 S1
  obtain ⟨b', tb, q3⟩ := tr_run0 (v := .bl b) S1 (show RN C σ _ (.bl b) (.val (.bool b)) from Rf.bl b) q2
  cases tb
  exact q3
end
end AM
set_option Elab.async false
set_option linter.all false
set_option maxRecDepth 100000
set_option maxHeartbeats 1000000
/-! AM7: displays, subscripts, tests, built-ins, methods, what is walked. -/
namespace AM
open PySem PySem.Spec PyProof.Rows L2

/-! ### the text -/
def nst : Expr → Bool
  | .Starred .. => false
  | _ => true
theorem nst_each {e : Expr} {es : List Expr} {env : Env} (h : nst e = true) : starEach (e :: es) env = (false, eval e env) :: starEach es env := by
  cases e <;> first | rfl | cases h
theorem nst_back {pos : Pos} {env : Env} : ∀ {es : List Expr}, es.all nst = true → (backTo pos (starEach es env)).any (·.1) = false
  | [], _ => rfl
  | e :: es, h => by
    simp only [List.all_cons, Bool.and_eq_true] at h
    rw [nst_each h.1]
    show (false || (backTo pos (starEach es env)).any (·.1)) = false
    rw [nst_back h.2]
    rfl
theorem nst_back2 {pos : Pos} {env : Env} : ∀ {es : List Expr}, es.all nst = true → (backTo pos (starEach es env)).all (fun x => !x.1) = true
  | [], _ => rfl
  | e :: es, h => by
    simp only [List.all_cons, Bool.and_eq_true] at h
    rw [nst_each h.1]
    show (true && (backTo pos (starEach es env)).all (fun x => !x.1)) = true
    rw [nst_back2 h.2]
    rfl
def plIx : Expr → Bool
  | .Slice .. => false
  | _ => true
theorem plIx_ok {b : Expr} (h : plIx b = true) : PlainIx b := by
  cases b <;> first | (intro o i; rfl) | cases h
def plT : Expr → Bool
  | .UnaryOp .. => false
  | .BoolOp .. => false
  | .IfExp .. => false
  | .Compare .. => false
  | _ => true
theorem plT_ok {e : Expr} {env : Env} (h : plT e = true) : ∀ whole, isTrue e env whole = (do let v ← whole; standAt e.pos; holding [v] (truthy v)) := by
  cases e <;> first | (intro w; rfl) | cases h
def nsup : Expr → Bool
  | .Call .. => false
  | _ => true
theorem nsup_ok {o : Expr} {name : Str} {env : Env} (h : nsup o = true) : attributeBase o name env (eval o env) = eval o env := by
  cases o <;> first | rfl | cases h

section
variable {X : Cx} {C : Cn} {G : Gd} {W : Wish} {Φ : Calls} {a b c e o : Expr} {es rest : List Expr} {pos cpos apos p p2 : Pos} {m n : M AV}

/-! ### lists of expressions -/
theorem k_nil : PA X [] (tNs C G W (evs Φ .nil)) := pa_imp pa_nil fun σ H Q ⟨s, S, q⟩ => by
  unfold evs at q
  exact Run.now q S [] True.intro
theorem k_cons {e1 l} (ha : PE X e (tA C G W (ev Φ e1))) (hr : PA X es (tNs C G W (evs Φ l))) (hs : nst e = true) : PA X (e :: es) (tNs C G W (evs Φ (.cons e1 l))) := by
  refine pa_imp (pa_cons (pe_opn ha) hr (nst_each hs)) fun σ H Q ⟨s, S, q⟩ => ?_
  unfold evs at q
  refine ⟨s, S, (Run.bnd q).imp fun x s1 H1 e1 S1 q1 v r1 => ⟨s1, S1, (Run.bnd q1).imp fun y s2 H2 e2 S2 q2 vs r2 => ?_⟩⟩
  exact Run.now q2 S2 (v :: vs) ⟨r1.ext e2, r2⟩
theorem fzs_run {σ : St} {P : Hp → Prop} : ∀ {as : List AV} {vs : List V} {s : AS} {H : Hp} {k : List PyData → AS → Hp → Prop}, Sim C G s σ H → RNs C σ H vs as → Run C G W σ H (fzs as s) k →
    (∀ ds s' H', Ext H H' → Sim C G s' σ H' → Rfs C.K H' vs ds → k ds s' H' → P H') → Lk P H
  | [], [], s, H, k, S, r, q, i => .now (i [] s H (Ext.refl H) S .nil (Run.now q S))
  | a :: as, v :: vs, s, H, k, S, r, q, i => by
    unfold fzs at q
    refine Lk.join (fz_run S r.1.ra (Run.bnd q) fun d s1 H1 e1 S1 rf q1 => ?_)
    exact fzs_run S1 (r.2.ext e1) (Run.bnd q1) fun ds s2 H2 e2 S2 rfs q2 => i (d :: ds) s2 H2 (e1.trans e2) S2 (.cons (Rf.ext e2 d v rf) rfs) (Run.now q2 S2)
  | [], _ :: _, _, _, _, _, r, _, _ => r.elim
  | _ :: _, [], _, _, _, _, r, _, _ => r.elim
theorem pa_fz {m : M (List AV)} (h : PA X es (tNs C G W m)) : PA X es (tDs C G W (bnd m fzs)) := by
  refine pa_imp (pa_lk h) fun σ H Q ⟨s, S, q⟩ => ⟨s, S, (Run.bnd q).imp fun as s1 H1 e1 S1 q1 vs r => ?_⟩
  exact fzs_run S1 r q1 fun ds s2 H2 e2 S2 rf q2 => q2 vs rf
theorem k_tup {l x1} (h : PA X es (tNs C G W (evs Φ l))) : PE X (.Tuple es x1 pos) (tA C G W (ev Φ (.tup l))) := by
  refine pe_imp (pe_tup (pa_fz h)) fun σ H Q ⟨s, S, q⟩ => ?_
  unfold ev at q
  refine ⟨s, S, (Run.bnd q).imp fun ds s1 H1 e1 S1 q1 vs r => ?_⟩
  by_cases hf : fits ds.length = true
  · rw [if_pos hf] at q1
    refine ⟨by rw [r.length]; simpa [fits] using hf, fun p hp => ?_⟩
    exact AVp.of (a := .val (.tuple ds)) S1 (fun _ z => by cases z) q1 _ _ (same_upd hp) (.tup (.inl (.inl upd_same)) (r.ext (.same (same_upd hp))))
  · rw [if_neg hf] at q1
    exact False.elim q1
theorem k_lst {l} (h : PA X es (tNs C G W (evs Φ l))) : PE X (.List es pos) (tA C G W (ev Φ (.lst l))) := by
  refine pe_imp (pe_lst (pa_fz h)) fun σ H Q ⟨s, S, q⟩ => ?_
  unfold ev at q
  refine ⟨s, S, (Run.bnd q).imp fun ds s1 H1 e1 S1 q1 vs r => ?_⟩
  by_cases hf : fits ds.length = true
  · rw [if_pos hf] at q1
    refine ⟨by rw [r.length]; simpa [fits] using hf, fun p hp => ?_⟩
    exact AVp.of (a := .new ds) S1 (fun _ z => by cases z) q1 _ _ _ hp (same_upd hp) upd_same (r.ext (.same (same_upd hp)))
  · rw [if_neg hf] at q1
    exact False.elim q1

/-! ### subscripts -/
theorem k_ix {e1 e2} (hK : X.K = C.K) (ha : PE X a (tA C G W (ev Φ e1))) (hb : PE X b (tA C G W (ev Φ e2))) (hs : plIx b = true) : PE X (.Subscript a b pos) (tA C G W (ev Φ (.ix e1 e2))) := by
  refine pe_imp (pe_ix ix_data (pe_opn ha) (pe_vl hb) (plIx_ok hs)) fun σ H Q ⟨s, S, q⟩ => ?_
  unfold ev at q
  refine ⟨s, S, (Run.bnd q).imp fun x s1 H1 e1 S1 q1 v r1 => ⟨s1, S1, (Run.bnd q1).imp fun j s2 H2 e2 S2 q2 u r2 => ?_⟩⟩
  obtain ⟨d, r3, q3⟩ := Run.rd q2 S2 (r1.ext e2)
  obtain ⟨y, ey, q4⟩ := Run.lift q3
  unfold rIxD
  rw [hK]
  exact ⟨d, j, y, r3, r2, ey, fun w rw' => Run.now q4 S2 w rw'⟩
theorem part_run {e1 : E} {k : M (Option Int)} (hn : ∀ Φ, part Φ e1 = bnd (vl (ev Φ e1)) fun d => lift (partD d)) (h : PE X e (tA C G W (ev Φ e1))) : PO X (some e) (tPo C G W (part Φ e1)) := by
  refine ⟨fun pins s σ H Q I hw => (po_some (pe_vl h)).run pins s σ H Q I ?_⟩
  obtain ⟨s0, S, q⟩ := hw
  rw [hn] at q
  refine ⟨s0, S, (Run.bnd q).imp fun d s1 H1 e1 S1 q1 v r1 => ?_⟩
  obtain ⟨o, eo, q2⟩ := Run.lift1 q1
  cases d with
  | int i =>
    cases eo
    cases r1
    exact ⟨i, rfl, Run.now q2 S1⟩
  | none => cases eo
  | bool _ => cases eo
  | str _ => cases eo
  | list _ => cases eo
  | tuple _ => cases eo
  | dict _ => cases eo
theorem k_part0 : PO X none (tPo C G W (part Φ .nop)) := ⟨fun pins s σ H Q I hw => po_none.run pins s σ H Q I (by
  obtain ⟨s0, S, q⟩ := hw
  unfold part at q
  exact Run.now q S)⟩
theorem k_part {e1 : E} (hn : e1 ≠ .nop) (h : PE X e (tA C G W (ev Φ e1))) : PO X (some e) (tPo C G W (part Φ e1)) := by
  refine part_run (k := part Φ e1) (fun Φ => ?_) h
  cases e1 <;> first | (unfold part; rfl) | exact absurd rfl hn
theorem k_slc {e1 e2 e3} {lo hi : Option Expr} {p2 : Pos} (hK : X.K = C.K) (ha : PE X a (tA C G W (ev Φ e1))) (hl : PO X lo (tPo C G W (part Φ e2))) (hh : PO X hi (tPo C G W (part Φ e3))) : PE X (.Subscript a (.Slice lo hi none p2) pos) (tA C G W (ev Φ (.slc e1 e2 e3))) := by
  refine pe_imp (pe_slice sl_data (pe_opn ha) hl hh) fun σ H Q ⟨s, S, q⟩ => ?_
  unfold ev at q
  refine ⟨s, S, (Run.bnd q).imp fun x s1 H1 e1 S1 q1 v r1 => ⟨s1, S1, (Run.bnd q1).imp fun l s2 H2 e2 S2 q2 => ⟨s2, S2, (Run.bnd q2).imp fun u s3 H3 e3 S3 q3 => ?_⟩⟩⟩
  obtain ⟨d, r3, q4⟩ := Run.rd q3 S3 (r1.ext (e2.trans e3))
  obtain ⟨z, ez, q5⟩ := Run.lift1 q4
  unfold rSlD
  rw [hK]
  exact ⟨d, z, r3, ez, AVp.of S3 (slcD_nb ez) q5⟩
theorem k_rev {e1} {k : Nat} {p1 p2 p3 : Pos} (hK : X.K = C.K) (ha : PE X a (tA C G W (ev Φ e1))) : PE X (.Subscript a (.Slice none none (some (.UnaryOp .USub (.Constant (.int 1) k p1) p2)) p3) pos) (tA C G W (ev Φ (.rev e1))) := by
  refine pe_imp (pe_rev (pe_opn ha)) fun σ H Q ⟨s, S, q⟩ => ?_
  unfold ev at q
  refine ⟨s, S, (Run.bnd q).imp fun x s1 H1 e1 S1 q1 v r1 => ?_⟩
  obtain ⟨d, r3, q4⟩ := Run.rd q1 S1 r1
  obtain ⟨z, ez, q5⟩ := Run.lift1 q4
  rw [hK]
  exact ⟨d, z, r3, ez, AVp.of S1 (revD_nb ez) q5⟩

/-! ### tests -/
theorem pt_to {t t' : TT} (h : PT X e t) (i : ∀ σ H Q, t' σ H Q → t σ H Q) : PT X e t' := pt_imp h i
theorem kt_tru {e1} (hK : X.K = C.K) (ha : PE X a (tA C G W (ev Φ e1))) (hp : plT a = true) (ht : tst Φ e1 = bnd (opn (ev Φ e1)) trA) : PT X a (tBo C G W (tst Φ e1)) := by
  refine pt_imp (pt_truth (pe_opn ha) (plT_ok hp)) fun σ H Q ⟨s, S, q⟩ => ?_
  rw [ht] at q
  refine ⟨s, S, (Run.bnd q).imp fun x s1 H1 e1 S1 q1 v r1 => ?_⟩
  exact tr_run hK S1 r1 q1
theorem kt_nt {e1} (ha : PT X a (tBo C G W (tst Φ e1))) : PT X (.UnaryOp .Not a pos) (tBo C G W (tst Φ (.nt e1))) := by
  refine pt_imp (pt_not ha) fun σ H Q ⟨s, S, q⟩ => ?_
  unfold tst at q
  exact ⟨s, S, (Run.bnd q).imp fun x s1 H1 e1 S1 q1 => Run.now q1 S1⟩
theorem kt_isN {k : Bool} {j pos'} {e1} (ha : PE X a (tA C G W (ev Φ e1))) : PT X (.Compare a [isOp k] [.Constant .none j pos'] pos) (tBo C G W (tst Φ (.isN k e1))) := by
  cases k with
  | true => exact pt_imp (pt_cmp (pc_isN (pe_opn ha))) fun σ H Q ⟨s, S, q⟩ => isN_pc (k := true) S (tst_isN q) fun k s' H' S' r => ⟨k, rfl, r k rfl⟩
  | false => exact pt_imp (pt_cmp (pc_notN (pe_opn ha))) fun σ H Q ⟨s, S, q⟩ => isN_pc (k := false) S (tst_isN q) fun k s' H' S' r => ⟨k, rfl, r k rfl⟩
theorem pw_imp {t t' : TT} (h : PW X e t) (i : ∀ σ H Q, t' σ H Q → t σ H Q) : PW X e t' := ⟨fun wh pins s σ H Q I hw => h.run wh pins s σ H Q I (i σ H Q hw)⟩
theorem kw_an1 {e1} (ha : PT X a (tBo C G W (tst Φ e1))) : PW X (.BoolOp .And [a] pos) (tBo C G W (tstAn Φ (.cons e1 .nil))) := pw_imp (pw_and1 ha) fun σ H Q ⟨s, S, q⟩ => ⟨s, S, by unfold tstAn at q; exact q⟩
theorem kw_or1 {e1} (ha : PT X a (tBo C G W (tst Φ e1))) : PW X (.BoolOp .Or [a] pos) (tBo C G W (tstOr Φ (.cons e1 .nil))) := pw_imp (pw_or1 ha) fun σ H Q ⟨s, S, q⟩ => ⟨s, S, by unfold tstOr at q; exact q⟩
theorem kw_an {e1 e2 e3} (ha : PT X a (tBo C G W (tst Φ e1))) (hb : PW X (.BoolOp .And (b :: rest) pos) (tBo C G W (tstAn Φ (.cons e2 e3)))) : PW X (.BoolOp .And (a :: b :: rest) pos) (tBo C G W (tstAn Φ (.cons e1 (.cons e2 e3)))) := by
  refine pw_imp (pw_and ha hb) fun σ H Q ⟨s, S, q⟩ => ?_
  unfold tstAn at q
  refine ⟨s, S, (Run.bnd q).imp fun x s1 H1 e1 S1 q1 => ?_⟩
  cases x with
  | true => exact ⟨s1, S1, q1⟩
  | false => exact Run.now q1 S1
theorem kw_or {e1 e2 e3} (ha : PT X a (tBo C G W (tst Φ e1))) (hb : PW X (.BoolOp .Or (b :: rest) pos) (tBo C G W (tstOr Φ (.cons e2 e3)))) : PW X (.BoolOp .Or (a :: b :: rest) pos) (tBo C G W (tstOr Φ (.cons e1 (.cons e2 e3)))) := by
  refine pw_imp (pw_or ha hb) fun σ H Q ⟨s, S, q⟩ => ?_
  unfold tstOr at q
  refine ⟨s, S, (Run.bnd q).imp fun x s1 H1 e1 S1 q1 => ?_⟩
  cases x with
  | false => exact ⟨s1, S1, q1⟩
  | true => exact Run.now q1 S1
theorem kt_an {l} (h : PW X e (tBo C G W (tstAn Φ l))) : PT X e (tBo C G W (tst Φ (.an l))) := (pw_imp h fun σ H Q ⟨s, S, q⟩ => ⟨s, S, by unfold tst at q; exact q⟩).pt
theorem kt_or {l} (h : PW X e (tBo C G W (tstOr Φ l))) : PT X e (tBo C G W (tst Φ (.orr l))) := (pw_imp h fun σ H Q ⟨s, S, q⟩ => ⟨s, S, by unfold tst at q; exact q⟩).pt
theorem kt_ite {e1 e2 e3} (hc : PT X c (tBo C G W (tst Φ e1))) (ha : PT X a (tBo C G W (tst Φ e2))) (hb : PT X b (tBo C G W (tst Φ e3))) : PT X (.IfExp c a b pos) (tBo C G W (tst Φ (.ite e1 e2 e3))) := by
  refine ⟨fun pins s σ H Q I ⟨s0, S, q⟩ => ?_⟩
  unfold tst at q
  refine isTrue_IfExp (thn (hc.run pins s σ H (fun k H' => (tBo C G W (fun s => (if k = true then tst Φ e2 else tst Φ e3) s)) σ H' Q) I ⟨s0, S, (Run.bnd q).imp fun k s1 H1 e1 S1 q1 => ⟨s1, S1, q1⟩⟩) fun k s1 ⟨H1, I1, q1⟩ => ?_)
  cases k with
  | true => exact ha.run pins s1 σ H1 Q I1 q1
  | false => exact hb.run pins s1 σ H1 Q I1 q1

/-! ### built-ins -/
theorem rds_run {σ : St} : ∀ {as : List AV} {vs : List V} {s : AS} {H : Hp} {k : List PyData → AS → Hp → Prop}, Sim C G s σ H → RNs C σ H vs as → Run C G W σ H (rds as s) k → ∃ ds, RDs C.K H vs ds ∧ k ds s H
  | [], [], s, H, k, S, r, q => ⟨[], True.intro, Run.now q S⟩
  | a :: as, v :: vs, s, H, k, S, r, q => by
    unfold rds at q
    obtain ⟨d, r2, q2⟩ := Run.rd q S r.1
    obtain ⟨ds, r3, q3⟩ := rds_run S r.2 (Run.bnd q2)
    exact ⟨d :: ds, ⟨r2, r3⟩, Run.now q3 S⟩
  | [], _ :: _, _, _, _, _, r, _ => r.elim
  | _ :: _, [], _, _, _, _, r, _ => r.elim
theorem k_blt {bl : Blt} {l} (hK : X.K = C.K) (hg : Gl X (bltN bl)) (hm : X.mg (bltN bl) = none) (hc : bltCalm bl = true → X.calm = true) (ha : PA X (e :: es) (tNs C G W (evs Φ l))) (hs : (e :: es).all nst = true) : PE X (.Call (.Name (bltN bl) p) (e :: es) [] pos) (tA C G W (ev Φ (.blt bl l))) := by
  have hs' := hs
  simp only [List.all_cons, Bool.and_eq_true] at hs'
  have h1 : bltN bl ≠ "__name__" := by cases bl <;> decide
  have h2 : (bltN bl == ("__debug__" : Str)) = false := by cases bl <;> decide
  have h : PE X (.Call (.Name (bltN bl) p) (e :: es) [] pos) (tCB (rBlt X.K bl) (tNs C G W (evs Φ l))) := by
    have z := bltB bl
    have w := call_blt bl hc
    revert z w h1 h2 hg hm
    cases bl <;> intro hg hm h1 h2 z w
    all_goals first
      | exact pe_callB w hg hm z ha h1 h2 (nst_each hs'.1) (nst_back hs'.2)
      | exact pe_callTy w hg hm z ha h1 h2 (nst_each hs'.1) (nst_back hs'.2)
  refine pe_imp h fun σ H Q ⟨s, S, q⟩ => ?_
  unfold ev at q
  refine ⟨s, S, (Run.bnd (Run.bnd q)).imp fun as s1 H1 e1 S1 q1 vs r => ?_⟩
  obtain ⟨ds, rd, q2⟩ := rds_run S1 r q1
  obtain ⟨z, ez, q3⟩ := Run.lift1 q2
  unfold rBlt
  rw [hK]
  exact ⟨ds, z, rd, ez, AVp.of S1 (bltD_nb ez) q3⟩
theorem k_inst {t : Ty} {e1} (hK : X.K = C.K) (hg : Gl X "isinstance") (hm : X.mg "isinstance" = none) (hg2 : Gl X (tyS t)) (hm2 : X.mg (tyS t) = none) (ha : PE X a (tA C G W (ev Φ e1))) (hs : nst a = true) : PE X (.Call (.Name "isinstance" p) [a, .Name (tyS t) p2] [] pos) (tA C G W (ev Φ (.inst e1 t))) := by
  have h1 : tyS t ≠ "__name__" := by cases t <;> decide
  have h2 : (tyS t == ("__debug__" : Str)) = false := by cases t <;> decide
  refine pe_imp (pe_callB call_isi hg hm (by decide +kernel) (pa_cons (pe_opn ha) (pa_cons (pe_bltn (v := .ty (tyN t)) hg2 hm2 (tyB t) rfl h1 h2) pa_nil) (nst_each hs)) (by decide) (by decide) (nst_each hs) rfl) fun σ H Q ⟨s, S, q⟩ => ?_
  unfold ev at q
  refine ⟨s, S, (Run.bnd q).imp fun x s1 H1 e1 S1 q1 v r1 => ?_⟩
  obtain ⟨d, r3, q2⟩ := Run.rd q1 S1 r1
  by_cases hi : instOk d = true
  · rw [if_pos hi] at q2
    exact ⟨v, .ty (tyN t), _, _, _, rfl, .ty _, by rw [hK]; exact tyx_of r3, kit_data t d hi, Run.now q2 S1 _ (.bl _)⟩
  · rw [if_neg hi] at q2
    exact False.elim q2
end
end AM
set_option Elab.async false
set_option linter.all false
set_option maxRecDepth 100000
set_option maxHeartbeats 1000000
/-! AM8: methods; what is walked. -/
namespace AM
open PySem PySem.Spec PyProof.Rows L2
theorem strs_len : ∀ {K : PySem.W.Frag} {H : Hp} {ds : List PyData} {vs : List V} {ns : List Str}, strsD ds = some ns → Rfs K H vs ds → vs = ns.map V.str := fun h r => rfs_strs h r
section
variable {X : Cx} {C : Cn} {G : Gd} {W : Wish} {Φ : Calls} {a b c e o : Expr} {es rest : List Expr} {pos cpos apos p p2 : Pos} {m n : M AV}

/-! ### methods -/
theorem meth_hfew (he : nst e = true) : ((backTo cpos (starEach [e] X.env)).all (fun x => !x.1) && (backToKw cpos (keywordEach [] X.env)).all (fun x => x.1.isSome)
      && decide (([e] : List Expr).length + ([] : List Keyword).length + (if ([] : List Keyword).isEmpty then 0 else 1) < 30)) = true := by
  rw [nst_each he]
  rfl
/-- an owned list at a value -/
theorem own_ty {σ : St} {H : Hp} {s : AS} {v : V} {i : Nat} {b : Bool} {xs : List PyData} (S : Sim C G s σ H) (r : RN C σ H v (.bor i)) (h : sl s i = some (.own b xs)) : ∃ l vs, v = .ref l ∧ H l = some (.lst vs) ∧ Rfs C.K H vs xs := by
  have r : σ[i]? = some (some v) := r
  obtain ⟨v', z1, l, vs, rfl, h1, h2, _⟩ := S.slot i _ h
  rw [r] at z1
  cases z1
  exact ⟨l, vs, rfl, h1, h2⟩
theorem mOk_own {mt : Mth} (hj : mt ≠ .join) {σ : St} {H : Hp} {s : AS} {v : V} {x : AV} {k : Unit → AS → Hp → Prop} (S : Sim C G s σ H) (r : RN C σ H v x) (q : Run C G W σ H (mOk mt x s) k) : (∃ i, x = .bor i) ∧ tyV X.K "list" v H ∧ k () s H := by
  unfold mOk at q
  cases x with
  | val d => cases mt <;> first | exact absurd rfl hj | exact False.elim q
  | new xs => cases mt <;> first | exact absurd rfl hj | exact False.elim q
  | bor i =>
    have q : Run C G W σ H (match sl s i with | some (.own _ _) => .ok () s | _ => .bad) k := by cases mt <;> first | exact absurd rfl hj | exact q
    cases h : sl s i with
    | none => rw [h] at q; exact False.elim q
    | some sv =>
      rw [h] at q
      cases sv with
      | val d => exact False.elim q
      | exc c w => exact False.elim q
      | own b xs =>
        obtain ⟨l, vs, rfl, h1, _⟩ := own_ty S r h
        exact ⟨⟨i, rfl⟩, .inl ⟨rfl, vs, SqL.of h1⟩, Run.now q S⟩
theorem k_append {e1 l} (hl : (apos.endLine == cpos.line) = true) (ho : PE X o (tA C G W (ev Φ e1))) (ha : PA X [e] (tNs C G W (evs Φ l))) (hs : nst e = true) (hb : nsup o = true) : PE X (.Call (.Attribute o "append" apos) [e] [] cpos) (tA C G W (ev Φ (.meth .append e1 l))) := by
  refine pe_imp (pe_bm F.plainAttrs_list F.slot_list_append F.type_list_append mt_append (pe_opn ho) (pa_lk ha) (nsup_ok hb) (meth_hfew hs) hl (nst_each hs) rfl) fun σ H Q ⟨s, S, q⟩ => ?_
  unfold ev at q
  refine ⟨s, S, (Run.bnd q).imp fun x s1 H1 e1 S1 q1 v r1 => ?_⟩
  obtain ⟨⟨i, rfl⟩, ty, q2⟩ := mOk_own (X := X) (k := fun _ s' H' => Run C G W σ H' (bnd (evs Φ l) (methM .append x) s') fun a s' H' => ∀ v, RA C G s' σ H' v a → Q v H') (by decide) S1 r1 (Run.bnd q1)
  refine ⟨ty, s1, S1, (Run.bnd q2).imp fun as s2 H2 e2 S2 q3 vs r2 => ?_⟩
  match as, vs, r2, q3 with
  | [a], [y], r2, q3 =>
    refine fz_run S2 r2.1.ra (Run.bnd q3) fun d s3 H3 e3 S3 rf q4 => ?_
    cases h : sl s3 i with
    | none => rw [h] at q4; exact False.elim q4
    | some sv =>
      rw [h] at q4
      cases sv with
      | val d => exact False.elim q4
      | exc c w => exact False.elim q4
      | own b xs =>
        obtain ⟨l, ws, z1, h1, h2, hw⟩ := S3.write (ys := xs ++ [d]) h
        have r1' : σ[i]? = some (some v) := r1
        rw [r1'] at z1
        cases z1
        dsimp only at q4
        by_cases hz : decide (xs.length < sizeLine) = true
        · rw [if_pos hz] at q4
          obtain ⟨S4, e4⟩ := hw (ws ++ [y]) (h2.append (.cons rf .nil))
          exact ⟨l, ws, y, rfl, rfl, h1, by rw [h2.length]; simpa using hz, q4 _ e4 S4 _ .non⟩
        · rw [if_neg hz] at q4
          exact False.elim q4
  | [], _, _, q3 => exact False.elim q3
  | _ :: _ :: _, _, _, q3 => exact False.elim q3
  | [_], [], r2, _ => exact r2.elim
  | [_], _ :: _ :: _, r2, _ => exact r2.2.elim
theorem k_extend {e1 l} (hl : (apos.endLine == cpos.line) = true) (ho : PE X o (tA C G W (ev Φ e1))) (ha : PA X [e] (tNs C G W (evs Φ l))) (hs : nst e = true) (hb : nsup o = true) : PE X (.Call (.Attribute o "extend" apos) [e] [] cpos) (tA C G W (ev Φ (.meth .extend e1 l))) := by
  refine pe_imp (pe_bm F.plainAttrs_list F.slot_list_extend F.type_list_extend mt_extR (pe_opn ho) ha (nsup_ok hb) (meth_hfew hs) hl (nst_each hs) rfl) fun σ H Q ⟨s, S, q⟩ => ?_
  unfold ev at q
  refine ⟨s, S, (Run.bnd q).imp fun x s1 H1 e1 S1 q1 v r1 => ?_⟩
  obtain ⟨⟨i, rfl⟩, ty, q2⟩ := mOk_own (X := X) (k := fun _ s' H' => Run C G W σ H' (bnd (evs Φ l) (methM .extend x) s') fun a s' H' => ∀ v, RA C G s' σ H' v a → Q v H') (by decide) S1 r1 (Run.bnd q1)
  refine ⟨ty, s1, S1, (Run.bnd q2).imp fun as s2 H2 e2 S2 q3 vs r2 => ?_⟩
  match as, vs, r2, q3 with
  | [a], [y], r2, q3 =>
    obtain ⟨d, rd, q4⟩ := Run.rd q3 S2 r2.1
    cases h : sl s2 i with
    | none => rw [h] at q4; cases d <;> exact False.elim q4
    | some sv =>
      rw [h] at q4
      cases sv with
      | val d' => cases d <;> exact False.elim q4
      | exc c w => cases d <;> exact False.elim q4
      | own b xs =>
        cases d with
        | list ys =>
          obtain ⟨l, ws, z1, h1, h2, hw⟩ := S2.write (ys := xs ++ ys) h
          have r1' : σ[i]? = some (some v) := r1
          rw [r1'] at z1
          cases z1
          dsimp only at q4
          obtain ⟨bb, us, rfl, hr, hrs⟩ := rd.rd
          by_cases hz : fits (xs.length + ys.length) = true
          · rw [if_pos hz] at q4
            obtain ⟨S4, e4⟩ := hw (ws ++ us) (h2.append hrs)
            exact ⟨l, bb, ws, us, rfl, rfl, h1, hr, by rw [h2.length, hrs.length]; simpa [fits] using hz, q4 _ e4 S4 _ .non⟩
          · rw [if_neg hz] at q4
            exact False.elim q4
        | _ => exact False.elim q4
  | [], _, _, q3 => exact False.elim q3
  | _ :: _ :: _, _, _, q3 => exact False.elim q3
  | [_], [], r2, _ => exact r2.elim
  | [_], _ :: _ :: _, r2, _ => exact r2.2.elim
theorem k_pop {e1} (hl : (apos.endLine == cpos.line) = true) (ho : PE X o (tA C G W (ev Φ e1))) (hb : nsup o = true) : PE X (.Call (.Attribute o "pop" apos) [] [] cpos) (tA C G W (ev Φ (.meth .pop e1 .nil))) := by
  refine pe_imp (pe_bm0 F.plainAttrs_list F.slot_list_pop F.type_list_pop mt_pop (pe_opn ho) (nsup_ok hb) hl) fun σ H Q ⟨s, S, q⟩ => ?_
  unfold ev at q
  refine ⟨s, S, (Run.bnd q).imp fun x s1 H1 e1 S1 q1 v r1 => ?_⟩
  obtain ⟨⟨i, rfl⟩, ty, q2⟩ := mOk_own (X := X) (k := fun _ s' H' => Run C G W σ H' (bnd (evs Φ .nil) (methM .pop x) s') fun a s' H' => ∀ v, RA C G s' σ H' v a → Q v H') (by decide) S1 r1 (Run.bnd q1)
  unfold evs at q2
  have q4 := Run.now (Run.bnd q2) S1
  refine ⟨ty, ?_⟩
  unfold methM at q4
  dsimp only at q4
  cases h : sl s1 i with
  | none => rw [h] at q4; exact False.elim q4
  | some sv =>
    rw [h] at q4
    cases sv with
    | val d' => exact False.elim q4
    | exc c w => exact False.elim q4
    | own b xs =>
      obtain ⟨l, ws, z1, h1, h2, hw⟩ := S1.write (ys := xs.dropLast) h
      have r1' : σ[i]? = some (some v) := r1
      rw [r1'] at z1
      cases z1
      dsimp only at q4
      cases hy : xs[xs.length - 1]? with
      | none => rw [hy] at q4; exact False.elim q4
      | some y =>
        rw [hy] at q4
        obtain ⟨w, hw1, hw2⟩ := h2.get hy
        obtain ⟨S4, e4⟩ := hw ws.dropLast h2.dropLast
        exact ⟨l, ws, w, rfl, rfl, h1, by rw [h2.length]; exact hw1, q4 _ e4 S4 _ (Rf.ext e4 y w hw2)⟩
theorem k_join {e1 l} (hl : (apos.endLine == cpos.line) = true) (ho : PE X o (tA C G W (ev Φ e1))) (ha : PA X [e] (tNs C G W (evs Φ l))) (hs : nst e = true) (hb : nsup o = true) (hK : X.K = C.K) : PE X (.Call (.Attribute o "join" apos) [e] [] cpos) (tA C G W (ev Φ (.meth .join e1 l))) := by
  refine pe_imp (pe_bm F.plainAttrs_str F.slot_str_join F.type_str_join mt_join (pe_opn ho) ha (nsup_ok hb) (meth_hfew hs) hl (nst_each hs) rfl) fun σ H Q ⟨s, S, q⟩ => ?_
  unfold ev at q
  refine ⟨s, S, (Run.bnd q).imp fun x s1 H1 e1 S1 q1 v r1 => ?_⟩
  have q1' := Run.bnd q1
  unfold mOk at q1'
  cases x with
  | bor i => exact False.elim q1'
  | new xs => exact False.elim q1'
  | val d =>
    cases d with
    | str z =>
      cases r1
      have q2 := Run.now q1' S1
      refine ⟨rfl, s1, S1, (Run.bnd q2).imp fun as s2 H2 e2 S2 q3 vs r2 => ?_⟩
      match as, vs, r2, q3 with
      | [a], [y], r2, q3 =>
        obtain ⟨d, rd, q4⟩ := Run.rd q3 S2 r2.1
        cases d with
        | list ys =>
          obtain ⟨r, er, q5⟩ := Run.lift1 q4
          obtain ⟨z2, ez, rfl⟩ := Option.map_eq_some_iff.mp er
          unfold joinD at ez
          obtain ⟨ns, en, ez⟩ := Option.bind_eq_some_iff.mp ez
          dsimp only at ez
          by_cases hz : (fits (Txt.join z ns).length && fits ((ns.map (·.length)).sum + ns.length * z.length)) = true
          · rw [if_pos hz] at ez
            cases ez
            obtain ⟨l, us, rfl, hsq, hrs⟩ := rd.list
            have := rfs_strs en hrs
            subst this
            simp only [Bool.and_eq_true] at hz
            refine ⟨z, l, ns, rfl, rfl, .inl (by rw [hK]; exact hsq), ?_, Run.now q5 S2 _ (.str _)⟩
            have h1 : (ns.map (·.length)).sum + ns.length * z.length ≤ sizeLine := by simpa [fits] using hz.2
            exact Nat.le_trans h1 (by decide)
          · rw [if_neg hz] at ez
            cases ez
        | _ => exact False.elim q4
      | [], _, _, q3 => exact False.elim q3
      | _ :: _ :: _, _, _, q3 => exact False.elim q3
      | [_], [], r2, _ => exact r2.elim
      | [_], _ :: _ :: _, r2, _ => exact r2.2.elim
    | _ => exact False.elim q1'

/-! ### what is walked -/
theorem k_itA {fr : Bool} (h : PE X e (tA C G W m)) : PE X e (tN C G W (itA fr m)) := by
  cases fr with
  | false => exact pe_opn h
  | true => exact pe_imp (pe_vl h) fun σ H Q ⟨s, S, q⟩ => ⟨s, S, (Run.bnd q).imp fun d s1 H1 e1 S1 q1 v r => Run.now q1 S1 v r⟩
theorem rngOk_of {j : Int} (h : rngOk j = true) : -(2 ^ 62) ≤ j ∧ j < 2 ^ 62 := by
  simpa [rngOk] using h
theorem pi_imp {tg it : Expr} {t t' : TI} (h : PI X tg it t) (i : ∀ σ H R, t' σ H R → t σ H R) : PI X tg it t' := ⟨fun pins s σ H R I hw => h.run pins s σ H R I (i σ H R hw)⟩
theorem k_range1 {fr : Bool} {tg : Expr} {e1} (hg : Gl X "range") (hm : X.mg "range" = none) (ha : PE X a (tA C G W (ev Φ e1))) (hs : nst a = true) : PI X tg (.Call (.Name "range" p) [a] [] pos) (tI C G W (evIt Φ fr (.range1 e1))) := by
  refine pi_imp (pi_range1 hg hm (pa_cons (pe_vl ha) pa_nil (nst_each hs)) (nst_each hs)) fun σ H R ⟨s, S, q⟩ => ?_
  unfold evIt at q
  refine ⟨s, S, (Run.bnd q).imp fun d s1 H1 e1 S1 q1 v r => ?_⟩
  cases d with
  | int j =>
    cases r
    dsimp only at q1
    by_cases hj : rngOk j = true
    · rw [if_pos hj] at q1
      have z := rngOk_of hj
      refine ⟨j, rfl, z.1, z.2, Run.now q1 S1 _ ?_⟩
      have w := wd_range (C := C) (G := G) (σ := σ) (H1 := H1) (lo := 0) (hi := j)
      rw [show (j - 0).toNat = j.toNat by rw [Int.sub_zero]] at w
      exact w
    · rw [if_neg hj] at q1
      exact False.elim q1
  | _ => exact False.elim q1
theorem k_range2 {fr : Bool} {tg : Expr} {e1 e2} (hg : Gl X "range") (hm : X.mg "range" = none) (ha : PE X a (tA C G W (ev Φ e1))) (hb : PE X b (tA C G W (ev Φ e2))) (hs : nst a = true) (hs2 : nst b = true) : PI X tg (.Call (.Name "range" p) [a, b] [] pos) (tI C G W (evIt Φ fr (.range2 e1 e2))) := by
  refine pi_imp (pi_range2 hg hm (pa_cons (pe_vl ha) (pa_cons (pe_vl hb) pa_nil (nst_each hs2)) (nst_each hs)) (by rw [nst_each hs, nst_each hs2]; rfl) (nst_each hs2)) fun σ H R ⟨s, S, q⟩ => ?_
  unfold evIt at q
  refine ⟨s, S, (Run.bnd q).imp fun d s1 H1 e1 S1 q1 v r => ⟨s1, S1, (Run.bnd q1).imp fun f s2 H2 e2 S2 q2 u r2 => ?_⟩⟩
  cases d with
  | int i =>
    cases r
    cases f with
    | int j =>
      cases r2
      dsimp only at q2
      by_cases hj : (rngOk i && rngOk j) = true
      · rw [if_pos hj] at q2
        simp only [Bool.and_eq_true] at hj
        have z1 := rngOk_of hj.1
        have z2 := rngOk_of hj.2
        exact ⟨i, j, rfl, ⟨z1.1, z1.2, z2.1, z2.2⟩, Run.now q2 S2 _ wd_range⟩
      · rw [if_neg hj] at q2
        exact False.elim q2
    | _ => exact False.elim q2
  | _ => cases f <;> exact False.elim q2
/-- a list that is walked -/
theorem wdL {σ : St} {H : Hp} {s : AS} {v : V} {x : AV} {ds : List PyData} (S : Sim C G s σ H) (r : RN C σ H v x) (hr : rdo s x = some (.list ds)) : ∃ l, v = .ref l ∧ (∃ vs, SqL C.K H l vs) ∧ WD C G σ H (ds, gd x ds) (Itl C.K l) ∧ WD C G σ H (enumD 0 ds, gd x ds) (Ite C.K l) := by
  obtain ⟨l, rfl, st⟩ := list_stays r ⟨s, S, hr⟩
  have hl := (rd_of S r hr).list
  obtain ⟨l', vs, e, hsq, _⟩ := hl
  cases e
  refine ⟨l, rfl, ⟨vs, hsq⟩, ⟨_, _, walkL, fun s σ' H e S hq hc => st s σ' H e S hq hc, fun i H x H' hi _ ⟨e, d, h1, h2⟩ => ⟨e ▸ Same.refl _, d, h1, e ▸ h2⟩⟩, ⟨_, _, walkEL, fun s σ' H e S hq hc => st s σ' H e S hq hc, fun i H x H' hi _ y => y⟩⟩
theorem wdT {σ : St} {H : Hp} {v : V} {ds : List PyData} (r : RD C.K H v (.tuple ds)) : ∃ l, v = .ref l ∧ (∃ vs, SqT C.K H l vs) ∧ WD C G σ H (ds, []) (Itt C.K l) ∧ WD C G σ H (enumD 0 ds, []) (ItnT C.K l) := by
  obtain ⟨l, rfl, st⟩ := tup_stays (d := .tuple ds) r
  obtain ⟨l', vs, e, hsq, _⟩ := r.tup
  cases e
  exact ⟨l, rfl, ⟨vs, hsq⟩, ⟨_, _, walkT, fun s σ' H e S hq hc => st H e, fun i H x H' hi _ ⟨e, d, h1, h2⟩ => ⟨e ▸ Same.refl _, d, h1, e ▸ h2⟩⟩, ⟨_, _, walkET, fun s σ' H e S hq hc => st H e, fun i H x H' hi _ y => y⟩⟩
theorem wdS {σ : St} {H : Hp} {v : V} {ds : List PyData} (r : RD C.K H v (.dict [(.list ds, .none)])) : ∃ l, v = .ref l ∧ (∃ vs, SqL C.K H l vs) ∧ WD C G σ H (ds, []) (Itl C.K l) ∧ WD C G σ H (enumD 0 ds, []) (Ite C.K l) := by
  rcases r with r | ⟨a, vs, ds', rfl, e, h, r⟩
  · cases r with
    | scr hs hr => exact ⟨_, rfl, ⟨_, hs.sq⟩, ⟨_, _, walkL, fun s σ' H e S hq hc => ⟨_, (hs.ext e).sq, hr.ext e⟩, fun i H x H' hi _ ⟨e, d, h1, h2⟩ => ⟨e ▸ Same.refl _, d, h1, e ▸ h2⟩⟩, ⟨_, _, walkEL, fun s σ' H e S hq hc => ⟨_, (hs.ext e).sq, hr.ext e⟩, fun i H x H' hi _ y => y⟩⟩
  · cases e
/-- of what srcOf takes -/
theorem src_run {σ : St} {H : Hp} {s : AS} {v : V} {x : AV} {k : Src → AS → Hp → Prop} (S : Sim C G s σ H) (r : RN C σ H v x) (q : Run C G W σ H (srcOf x s) k) : ∃ p l, v = .ref l ∧ k p s H ∧
    (((∃ vs, SqL C.K H l vs) ∧ WD C G σ H p (Itl C.K l) ∧ WD C G σ H (enumD 0 p.1, p.2) (Ite C.K l)) ∨ ((∃ vs, SqT C.K H l vs) ∧ WD C G σ H p (Itt C.K l) ∧ WD C G σ H (enumD 0 p.1, p.2) (ItnT C.K l))) := by
  unfold srcOf at q
  have q0 := q
  unfold AM.bnd AM.rd at q
  cases hr : rdo s x with
  | none => rw [hr] at q; exact False.elim q
  | some d =>
    obtain ⟨d', r2, q2⟩ := Run.rd q0 S r
    rw [hr] at q
    have q3 : Run C G W σ H (AM.lift (srcD x d) s) k := q
    obtain ⟨p, ep, q4⟩ := Run.lift1 q3
    have rdv := rd_of S r hr
    unfold srcD at ep
    split at ep
    · cases ep
      obtain ⟨l, rfl, h1, h2, h3⟩ := wdL S r hr
      exact ⟨_, l, rfl, Run.now q4 S, .inl ⟨h1, h2, h3⟩⟩
    · cases ep
      obtain ⟨l, rfl, h1, h2, h3⟩ := wdT (G := G) (σ := σ) rdv
      exact ⟨_, l, rfl, Run.now q4 S, .inr ⟨h1, h2, h3⟩⟩
    · cases ep
      obtain ⟨l, rfl, h1, h2, h3⟩ := wdS (G := G) (σ := σ) rdv
      exact ⟨_, l, rfl, Run.now q4 S, .inl ⟨h1, h2, h3⟩⟩
    · cases ep
theorem iseq_of {fr : Bool} {e1} {σ : St} {H : Hp} {R : It → Hp → Prop} (hK : X.K = C.K) (hd : evIt Φ fr e1 = bnd (itA fr (ev Φ e1)) srcOf) (q : tI C G W (evIt Φ fr e1) σ H R) : iSeq X.K (tN C G W (itA fr (ev Φ e1))) σ H R := by
  obtain ⟨s, S, q⟩ := q
  rw [hd] at q
  refine ⟨s, S, (Run.bnd q).imp fun x s1 H1 e1 S1 q1 v r1 => ?_⟩
  obtain ⟨p, l, rfl, q2, ⟨⟨vs, h1⟩, h2, _⟩ | ⟨⟨vs, h1⟩, h2, _⟩⟩ := src_run S1 r1 q1
  · rw [hK]; exact ⟨l, rfl, .inl ⟨vs, h1, q2 _ h2⟩⟩
  · rw [hK]; exact ⟨l, rfl, .inr ⟨vs, h1, q2 _ h2⟩⟩
theorem k_seq {fr : Bool} {tg : Expr} {e1} (hK : X.K = C.K) (ha : PE X a (tA C G W (ev Φ e1))) (hd : evIt Φ fr e1 = bnd (itA fr (ev Φ e1)) srcOf) : PI X tg a (tI C G W (evIt Φ fr e1)) := by
  exact pi_imp (pi_seq (k_itA (fr := fr) ha)) fun σ H R q => iseq_of hK hd q
theorem k_enum {fr : Bool} {elts : List Expr} {kk : Nat} {tpos : Pos} {e1} (hK : X.K = C.K) (hg : Gl X "enumerate") (hm : X.mg "enumerate" = none) (ha : PE X a (tA C G W (ev Φ e1))) (hs : nst a = true) : PI X (.Tuple elts kk tpos) (.Call (.Name "enumerate" p) [a] [] pos) (tI C G W (evIt Φ fr (.enum e1))) := by
  refine pi_imp (pi_enm hg hm (pa_cons (k_itA (fr := fr) ha) pa_nil (nst_each hs)) (nst_each hs)) fun σ H R ⟨s, S, q⟩ => ?_
  unfold evIt at q
  refine ⟨s, S, (Run.bnd (Run.bnd q)).imp fun x s1 H1 e1 S1 q1 v r1 => ?_⟩
  obtain ⟨p, l, rfl, q2, ⟨⟨vs, h1⟩, _, h2⟩ | ⟨⟨vs, h1⟩, _, h2⟩⟩ := src_run S1 r1 q1
  · rw [hK]; exact ⟨l, rfl, .inl ⟨vs, h1, Run.now q2 S1 _ h2⟩⟩
  · rw [hK]; exact ⟨l, rfl, .inr ⟨vs, h1, Run.now q2 S1 _ h2⟩⟩
theorem k_zip {fr : Bool} {elts : List Expr} {kk : Nat} {tpos : Pos} {e1 e2} (hK : X.K = C.K) (hg : Gl X "zip") (hm : X.mg "zip" = none) (ha : PE X a (tA C G W (ev Φ e1))) (hb : PE X b (tA C G W (ev Φ e2))) (hs : nst a = true) (hs2 : nst b = true) : PI X (.Tuple elts kk tpos) (.Call (.Name "zip" p) [a, b] [] pos) (tI C G W (evIt Φ fr (.zip e1 e2))) := by
  refine pi_imp (RZ.pi_zipA hg hm (pa_cons (k_itA (fr := fr) ha) (pa_cons (k_itA (fr := fr) hb) pa_nil (nst_each hs2)) (nst_each hs)) (nst_each hs) (by rw [nst_each hs2]; rfl)) fun σ H R ⟨s, S, q⟩ => ?_
  unfold evIt at q
  refine ⟨s, S, (Run.bnd q).imp fun x s1 H1 e1 S1 q1 v r1 => ⟨s1, S1, (Run.bnd q1).imp fun y s2 H2 e2 S2 q2 u r2 => ?_⟩⟩
  have r1 := r1.ext e2
  unfold AM.bnd AM.rd at q2
  cases hx : rdo s2 x with
  | none => rw [hx] at q2; exact False.elim q2
  | some d =>
    rw [hx] at q2
    cases hy : rdo s2 y with
    | none => simp only [Out.bd, hy] at q2; exact False.elim q2
    | some f =>
      simp only [Out.bd, hy] at q2
      obtain ⟨p, ep, q3⟩ := Run.lift1 q2
      unfold zipK at ep
      split at ep
      · rename_i xs ys
        cases ep
        obtain ⟨l, rfl, st⟩ := list_stays r1 ⟨s2, S2, hx⟩
        obtain ⟨l2, rfl, st2⟩ := list_stays r2 ⟨s2, S2, hy⟩
        obtain ⟨_, vs, e, hsq, _⟩ := (rd_of S2 r1 hx).list
        cases e
        obtain ⟨_, vs2, e, hsq2, _⟩ := (rd_of S2 r2 hy).list
        cases e
        rw [hK]
        refine ⟨l, l2, vs, vs2, rfl, .inl ⟨hsq, hsq2, Run.now q3 S2 _ ⟨_, _, walkZL, fun s σ' H e S hq hc => ?_, fun i H x H' hi _ y => y⟩⟩⟩
        unfold chk at hc
        rw [List.all_append, Bool.and_eq_true] at hc
        exact ⟨st s σ' H e S (fun q hq' => hq q (List.mem_append_left _ hq')) hc.1, st2 s σ' H e S (fun q hq' => hq q (List.mem_append_right _ hq')) hc.2⟩
      · rename_i xs ys
        cases ep
        obtain ⟨l, rfl, st⟩ := tup_stays (d := .tuple xs) (rd_of S2 r1 hx)
        obtain ⟨l2, rfl, st2⟩ := tup_stays (d := .tuple ys) (rd_of S2 r2 hy)
        obtain ⟨_, vs, e, hsq, _⟩ := (rd_of S2 r1 hx).tup
        cases e
        obtain ⟨_, vs2, e, hsq2, _⟩ := (rd_of S2 r2 hy).tup
        cases e
        rw [hK]
        exact ⟨l, l2, vs, vs2, rfl, .inr ⟨hsq, hsq2, Run.now q3 S2 _ ⟨_, _, walkZT, fun s σ' H e S hq hc => ⟨st H e, st2 H e⟩, fun i H x H' hi _ y => y⟩⟩⟩
      · cases ep
end
end AM
set_option Elab.async false
set_option linter.all false
set_option maxRecDepth 100000
set_option maxHeartbeats 1000000
/-! AM9: targets; list comprehensions. -/
namespace AM
open PySem PySem.Spec PyProof.Rows L2

/-! ### targets -/
def glen : G → Nat
  | .cons _ gs => glen gs + 1
  | _ => 0
def gvs : G → List Nat
  | .nm i => [i]
  | .tp gs => gvs gs
  | .nil => []
  | .cons g gs => gvs g ++ gvs gs
mutual
def cG (K : PySem.W.Frag) : G → TG
  | .nm i => gName i
  | .tp gs => gTup K (glen gs) (cGs K gs)
  | .nil => fun _ _ _ _ => False
  | .cons _ _ => fun _ _ _ _ => False
def cGs (K : PySem.W.Frag) : G → TGs
  | .nil => gNil
  | .cons g gs => gCons (cG K g) (cGs K gs)
  | .nm _ => fun _ _ _ _ => False
  | .tp _ => fun _ _ _ _ => False
end
theorem wipe_in {σ : St} {j : Nat} : ∀ {vs : List Nat}, j ∈ vs → (wipe σ vs)[j]? = if j < σ.length then some none else none
  | v :: vs, h => by
    unfold wipe
    by_cases e : v = j
    · subst e
      by_cases hl : v < σ.length
      · rw [if_pos hl, List.getElem?_set_self (by rw [wipe_length]; exact hl)]
      · rw [if_neg hl, List.getElem?_eq_none (by rw [List.length_set, wipe_length]; omega)]
    · rw [List.getElem?_set_ne e]
      exact wipe_in ((List.mem_cons.mp h).resolve_left fun z => e z.symm)
theorem wipe_eq {σ σ' : St} {vs : List Nat} (hl : σ.length = σ'.length) (h : ∀ j, j ∉ vs → σ[j]? = σ'[j]?) : wipe σ vs = wipe σ' vs := by
  refine List.ext_getElem? fun j => ?_
  by_cases hj : j ∈ vs
  · rw [wipe_in hj, wipe_in hj, hl]
  · rw [wipe_out hj, wipe_out hj, h j hj]
theorem wipe_idem {σ : St} {vs : List Nat} : wipe (wipe σ vs) vs = wipe σ vs := wipe_eq (wipe_length σ vs) fun j hj => wipe_out hj
theorem bindGs_len : ∀ {gs : G} {ds : List PyData} {s s' : AS}, bindGs gs ds s = some s' → ds.length = glen gs
  | .nil, [], _, _, _ => rfl
  | .cons g gs, d :: ds, s, s', h => by
    unfold bindGs at h
    obtain ⟨s1, _, h2⟩ := Option.bind_eq_some_iff.mp h
    show ds.length + 1 = glen gs + 1
    rw [bindGs_len h2]
  | .nil, _ :: _, _, _, h => by unfold bindGs at h; cases h
  | .cons _ _, [], _, _, h => by unfold bindGs at h; cases h
  | .nm _, _, _, _, h => by unfold bindGs at h; cases h
  | .tp _, _, _, _, h => by unfold bindGs at h; cases h
section
variable {X : Cx} {C : Cn} {G : Gd} {W : Wish} {Φ : Calls}
mutual
theorem cG_run {H : Hp} : ∀ (g : AM.G) {d : PyData} {v : V} {s s' : AS} {σ : St} {Q : St → Hp → Prop}, bindG g d s = some s' → Sim C G s σ H → Rf C.K H v d →
    (∀ σ', Sim C G s' σ' H → σ'.length = σ.length → (∀ j, j ∉ gvs g → σ'[j]? = σ[j]?) → Q σ' H) → cG C.K g v σ H Q
  | .nm i, d, v, s, s', σ, Q, h, S, r, k => by
    unfold bindG at h
    cases h
    unfold cG
    exact k _ (S.setVal r) (by simp) fun j hj => List.getElem?_set_ne (fun z => hj (by simp [gvs, z]))
  | .tp gs, d, v, s, s', σ, Q, h, S, r, k => by
    cases d with
    | tuple ds =>
      unfold bindG at h
      cases r with
      | tup h1 h2 =>
        unfold cG
        exact ⟨_, _, rfl, h1, by rw [h2.length, bindGs_len h], cGs_run gs h S h2 fun σ' S' l hj => k σ' S' l fun j z => hj j (by simpa [gvs] using z)⟩
    | _ => unfold bindG at h; cases h
  | .nil, d, v, s, s', σ, Q, h, S, r, k => by unfold bindG at h; cases h
  | .cons _ _, d, v, s, s', σ, Q, h, S, r, k => by unfold bindG at h; cases h
theorem cGs_run {H : Hp} : ∀ (gs : AM.G) {ds : List PyData} {vs : List V} {s s' : AS} {σ : St} {Q : St → Hp → Prop}, bindGs gs ds s = some s' → Sim C G s σ H → Rfs C.K H vs ds →
    (∀ σ', Sim C G s' σ' H → σ'.length = σ.length → (∀ j, j ∉ gvs gs → σ'[j]? = σ[j]?) → Q σ' H) → cGs C.K gs vs σ H Q
  | .nil, ds, vs, s, s', σ, Q, h, S, r, k => by
    cases ds with
    | nil =>
      unfold bindGs at h
      cases h
      cases r
      unfold cGs
      exact ⟨rfl, k _ S rfl fun _ _ => rfl⟩
    | cons d ds => unfold bindGs at h; cases h
  | .cons g gs, ds, vs, s, s', σ, Q, h, S, r, k => by
    cases ds with
    | nil => unfold bindGs at h; cases h
    | cons d ds =>
      unfold bindGs at h
      obtain ⟨s1, h1, h2⟩ := Option.bind_eq_some_iff.mp h
      cases r with
      | cons r1 r2 =>
        unfold cGs
        refine ⟨_, _, rfl, cG_run g h1 S r1 fun σ1 S1 l1 j1 => cGs_run gs h2 S1 r2 fun σ2 S2 l2 j2 => k σ2 S2 (l2.trans l1) fun j hj => ?_⟩
        simp only [gvs, List.mem_append, not_or] at hj
        rw [j2 j hj.2, j1 j hj.1]
  | .nm _, ds, vs, s, s', σ, Q, h, S, r, k => by unfold bindGs at h; cases h
  | .tp _, ds, vs, s, s', σ, Q, h, S, r, k => by unfold bindGs at h; cases h
end
theorem nst_assign {e : Expr} {es : List Expr} {env : Env} (h : nst e = true) : assignEach (e :: es) env = (false, assign e env) :: assignEach es env := by
  cases e <;> first | rfl | cases h
theorem assign_len {env : Env} : ∀ {es : List Expr}, es.all nst = true → (assignEach es env).length = es.length ∧ (assignEach es env).findIdx? (·.1) = none
  | [], _ => ⟨rfl, rfl⟩
  | e :: es, h => by
    simp only [List.all_cons, Bool.and_eq_true] at h
    obtain ⟨h1, h2⟩ := assign_len (env := env) h.2
    rw [nst_assign h.1]
    refine ⟨by simp [h1], ?_⟩
    rw [List.findIdx?_cons]
    simp [h2]
theorem kg_cons {e : Expr} {es : List Expr} {g gs : AM.G} (h1 : PG X e (cG X.K g)) (h2 : PGs X es (cGs X.K gs)) (hs : nst e = true) : PGs X (e :: es) (cGs X.K (.cons g gs)) := by
  unfold cGs
  exact pgs_cons h1 h2 (by rw [nst_assign hs]; rfl)
theorem kg_nil : PGs X [] (cGs X.K .nil) := by
  unfold cGs
  exact pgs_nil
theorem kg_tp {es : List Expr} {k : Nat} {pos : Pos} {gs : AM.G} (hc : X.calm = true) (h : PGs X es (cGs X.K gs)) (hs : es.all nst = true) (hl : es.length = glen gs) : PG X (.Tuple es k pos) (cG X.K (.tp gs)) := by
  unfold cG
  exact pg_tup hc h ((assign_len hs).1.trans hl) (assign_len hs).2
theorem kg_nm {i : Nat} {x : Str} {pos : Pos} (hN : X.N.Nodup) (hi : X.N[i]? = some x) (hx : Loc X.env.scope x) (hf : X.fn x = true ∨ X.env.scope.names.lookup x = some .local) : PG X (.Name x pos) (cG X.K (.nm i)) := by
  unfold cG
  exact pg_name hN hi hx hf

/-! ### a list that nobody but the block may change -/
def GOk (G : Gd) : Prop := ∀ p ∈ G.io, ∃ o, G.Hin p.2 = some o
def GD (G : Gd) (D : Addr) (o : HO) : Gd := { G with Hin := upd G.Hin D o }
theorem GOk.gd (h : GOk G) {D : Addr} {o : HO} : GOk (GD G D o) := fun p hp => by
  show ∃ o', upd G.Hin D o p.2 = some o'
  by_cases e : p.2 = D
  · rw [e]; exact ⟨_, upd_same⟩
  · rw [upd_ne e]; exact h p hp
variable {s : AS} {σ : St} {H : Hp} {D : Addr} {o : HO}
theorem GOk.io (h : GOk G) (S : Sim C G s σ H) (hD : H D = none) : D ∉ G.io.map (·.2) := fun m => by
  obtain ⟨p, hp, rfl⟩ := List.mem_map.mp m
  obtain ⟨o, e⟩ := h p hp
  obtain ⟨o', z, _⟩ := S.there _ _ e
  rw [hD] at z
  cases z
theorem Sim.guard {ws : List V} (S : Sim C G s σ H) (hD : H D = some (.lst ws)) (nf : Free s σ D) (hn : G.Hin D = none) : Sim C (GD G D (.lst ws)) s σ H := by
  refine ⟨S.len, fun i sv q => ?_, S.dist, fun a o h m n => ?_, fun a o h => ?_, S.tabs⟩
  · obtain ⟨v, z1, z2⟩ := S.slot i sv q
    refine ⟨v, z1, ?_⟩
    cases sv with
    | val d => exact z2
    | exc c w => exact z2
    | own b xs =>
      obtain ⟨a, vs, rfl, h1, h2, h3⟩ := z2
      refine ⟨a, vs, rfl, h1, h2, ?_⟩
      cases b with
      | true => exact h3
      | false =>
        have hne : a ≠ D := fun z => nf i _ _ q (by rw [← z]; exact z1)
        show upd G.Hin D _ a = none
        rw [upd_ne hne]
        simpa using h3
  · have h : upd G.Hin D (.lst ws) a = some o := h
    by_cases e : a = D
    · subst e
      rw [upd_same] at h
      cases h
      exact hD
    · rw [upd_ne e] at h
      exact S.keep a o h m n
  · have h : upd G.Hin D (.lst ws) a = some o := h
    by_cases e : a = D
    · subst e
      exact ⟨_, hD, fun _ ps z => by cases z⟩
    · rw [upd_ne e] at h
      exact S.there a o h
theorem Sim.unguard (S : Sim C (GD G D o) s σ H) (hn : G.Hin D = none) : Sim C G s σ H := by
  have at_ : ∀ {a : Addr} {u : HO}, G.Hin a = some u → (GD G D o).Hin a = some u := fun {a u} h => by
    show upd G.Hin D o a = some u
    rw [upd_ne (ne_of_none h hn)]
    exact h
  refine ⟨S.len, fun i sv q => ?_, S.dist, fun a o h m n => S.keep a o (at_ h) m n, fun a o h => S.there a o (at_ h), S.tabs⟩
  obtain ⟨v, z1, z2⟩ := S.slot i sv q
  refine ⟨v, z1, ?_⟩
  cases sv with
  | val d => exact z2
  | exc c w => exact z2
  | own b xs =>
    obtain ⟨a, vs, rfl, h1, h2, h3⟩ := z2
    refine ⟨a, vs, rfl, h1, h2, ?_⟩
    cases b with
    | true => exact h3
    | false =>
      have h3 : (GD G D o).Hin a = none := by simpa using h3
      have h3 : upd G.Hin D o a = none := h3
      show G.Hin a = none
      cases q2 : G.Hin a with
      | none => rfl
      | some u =>
        rw [upd_ne (ne_of_none q2 hn)] at h3
        rw [h3] at q2
        cases q2
theorem Sim.guarded (S : Sim C (GD G D o) s σ H) (hio : D ∉ G.io.map (·.2)) : Free s σ D := fun j b ys q z => by
  obtain ⟨v, z1, a, vs, rfl, h1, h2, h3⟩ := S.slot j _ q
  rw [z] at z1
  cases z1
  cases b with
  | true => exact hio (List.mem_map.mpr ⟨_, h3, rfl⟩)
  | false =>
    have h3 : (GD G D o).Hin D = none := by simpa using h3
    have h3 : upd G.Hin D o D = none := h3
    rw [upd_same] at h3
    cases h3
theorem Sim.redo {ws ws' : List V} (S : Sim C (GD G D o) s σ H) (hio : D ∉ G.io.map (·.2)) (hD : H D = some (.lst ws)) : Sim C (GD G D (.lst ws')) s σ (upd H D (.lst ws')) := by
  have fr := S.guarded hio
  refine ⟨S.len, fun i sv q => ?_, S.dist, fun a u h m n => ?_, fun a u h => ?_, tabs_upd S.tabs hD⟩
  · obtain ⟨v, z1, z2⟩ := S.slot i sv q
    refine ⟨v, z1, ?_⟩
    have z3 := rslot_other (o := .lst ws') hD (fun b xs hs z => by subst hs; subst z; exact fr i _ _ q z1) z2
    cases sv with
    | val d => exact z3
    | exc c w => exact z3
    | own b xs =>
      obtain ⟨a, vs, rfl, h1, h2, h3⟩ := z3
      refine ⟨a, vs, rfl, h1, h2, ?_⟩
      cases b with
      | true => exact h3
      | false =>
        have hne : a ≠ D := fun z => fr i _ _ q (by rw [← z]; exact z1)
        have h3 : (GD G D o).Hin a = none := by simpa using h3
        have h3 : upd G.Hin D o a = none := h3
        show upd G.Hin D _ a = none
        rw [upd_ne hne] at h3 ⊢
        exact h3
  · have h : upd G.Hin D (.lst ws') a = some u := h
    by_cases e : a = D
    · subst e
      rw [upd_same] at h ⊢
      exact h
    · rw [upd_ne e] at h ⊢
      exact S.keep a u (show upd G.Hin D o a = some u by rw [upd_ne e]; exact h) m n
  · have h : upd G.Hin D (.lst ws') a = some u := h
    by_cases e : a = D
    · subst e
      exact ⟨_, upd_same, fun _ ps z => by cases z⟩
    · rw [upd_ne e] at h ⊢
      exact S.there a u (show upd G.Hin D o a = some u by rw [upd_ne e]; exact h)
theorem Sim.wiped (S : Sim C G s σ H) : ∀ vs : List Nat, Sim C G (wipeA s vs) (wipe σ vs) H
  | [] => S
  | v :: vs => (Sim.wiped S vs).drop2 v none
theorem Sim.wipedA (S : Sim C G s σ H) : ∀ vs : List Nat, Sim C G (wipeA s vs) σ H
  | [] => S
  | v :: vs => (Sim.wipedA S vs).drop v
theorem sl_back {s0 s : AS} {j : Nat} {sv : SV} : ∀ {vs : List Nat}, sl (backA s0 s vs) j = some sv → (j ∈ vs ∧ sl s0 j = some sv) ∨ (j ∉ vs ∧ sl s j = some sv)
  | [], h => .inr ⟨by simp, h⟩
  | v :: vs, h => by
    unfold backA at h
    rcases sl_set h with ⟨rfl, q, _⟩ | ⟨hne, q⟩
    · exact .inl ⟨List.mem_cons_self .., q⟩
    · rcases sl_back q with ⟨m, q⟩ | ⟨m, q⟩
      · exact .inl ⟨List.mem_cons_of_mem _ m, q⟩
      · exact .inr ⟨fun z => (List.mem_cons.mp z).elim (fun z => hne z) m, q⟩
theorem back_len {s0 s : AS} : ∀ {vs : List Nat}, (backA s0 s vs).length = s.length
  | [] => rfl
  | v :: vs => by unfold backA; rw [List.length_set, back_len]
theorem Sim.back {s0 s1 : AS} {H0 : Hp} {vs : List Nat} (S0 : Sim C G s0 σ H0) (hno : (vs.any fun v => isOwn (sl s0 v)) = false) (e : Ext H0 H) (S1 : Sim C G s1 (wipe σ vs) H) : Sim C G (backA s0 s1 vs) σ H := by
  have own_out : ∀ {j : Nat} {b : Bool} {xs : List PyData}, sl (backA s0 s1 vs) j = some (.own b xs) → j ∉ vs ∧ sl s1 j = some (.own b xs) := fun {j b xs} q => by
    rcases sl_back q with ⟨m, q⟩ | h
    · rw [List.any_eq_false] at hno
      have := hno j m
      rw [q] at this
      exact absurd rfl this
    · exact h
  refine ⟨by rw [back_len, S1.len, wipe_length], fun j sv q => ?_, fun i j b b' xs ys q1 q2 q3 => ?_, S1.keep, S1.there, S1.tabs⟩
  · rcases sl_back q with ⟨m, q⟩ | ⟨m, q⟩
    · obtain ⟨v, z1, z2⟩ := S0.slot j sv q
      refine ⟨v, z1, ?_⟩
      cases sv with
      | val d => exact Rf.ext e d v z2
      | exc c w =>
        obtain ⟨a, d, oe, vw, rfl, h1, h2, h3, h4, h5⟩ := z2
        exact ⟨a, d, oe, vw, rfl, h1, h2, h3, e _ _ h4 (fun _ z => by cases z) (fun _ z => by cases z), h5.ext e⟩
      | own b xs =>
        rw [List.any_eq_false] at hno
        have := hno j m
        rw [q] at this
        exact absurd rfl this
    · obtain ⟨v, z1, z2⟩ := S1.slot j sv q
      exact ⟨v, by rw [← wipe_out m]; exact z1, z2⟩
  · obtain ⟨m1, p1⟩ := own_out q1
    obtain ⟨m2, p2⟩ := own_out q2
    exact S1.dist i j _ _ _ _ p1 p2 (by rw [wipe_out m1, wipe_out m2]; exact q3)
end

/-! ### list comprehensions -/
section
variable {X : Cx} {C : Cn} {G : Gd} {W : Wish} {Φ : Calls}
variable {gs : List (Nat × List PyData)} {own : List Nat} {g : AM.G} {tests : M Bool} {elt : M PyData} {r : List PyData} {d : PyData} {s s2 : AS} {ys : List PyData}
theorem compL_chk {l : List PyData} (h : compL gs own g tests elt l s = .ok ys s2) : chk gs s = true := by
  cases l with
  | nil =>
    unfold compL at h
    by_cases c : chk gs s = true
    · exact c
    · rw [if_neg c] at h; cases h
  | cons d l =>
    unfold compL at h
    by_cases c : chk gs s = true
    · exact c
    · rw [if_neg c] at h; cases h
theorem compL_nil (h : compL gs own g tests elt [] s = .ok ys s2) : ys = [] ∧ s = s2 := by
  have c := compL_chk h
  unfold compL at h
  rw [if_pos c] at h
  cases h
  exact ⟨rfl, rfl⟩
theorem compL_cons (h : compL gs own g tests elt (d :: r) s = .ok ys s2) : ∃ t1, bindG g d (wipeA s own) = some t1 ∧
    ((∃ t2 y t3 ys', tests t1 = .ok true t2 ∧ elt t2 = .ok y t3 ∧ compL gs own g tests elt r (wipeA t3 own) = .ok ys' s2 ∧ ys = y :: ys') ∨ ∃ t2, tests t1 = .ok false t2 ∧ compL gs own g tests elt r (wipeA t2 own) = .ok ys s2) := by
  have c := compL_chk h
  unfold compL at h
  rw [if_pos c] at h
  cases hb : bindG g d (wipeA s own) with
  | none => rw [hb] at h; cases h
  | some t1 =>
    rw [hb] at h
    refine ⟨t1, rfl, ?_⟩
    dsimp only at h
    cases ht : tests t1 with
    | ok b t2 =>
      rw [ht] at h
      cases b with
      | false => exact .inr ⟨t2, rfl, h⟩
      | true =>
        dsimp only at h
        cases he : elt t2 with
        | ok y t3 =>
          rw [he] at h
          dsimp only [AM.bnd] at h
          cases hr : compL gs own g tests elt r (wipeA t3 own) with
          | ok ys' s3 =>
            rw [hr] at h
            cases h
            exact .inl ⟨t2, y, t3, ys', rfl, he, hr, rfl⟩
          | err c w s3 => rw [hr] at h; cases h
          | bad => rw [hr] at h; cases h
        | err c w s3 => rw [he] at h; cases h
        | bad => rw [he] at h; cases h
    | err c w s3 => rw [ht] at h; cases h
    | bad => rw [ht] at h; cases h
def W0 : Wish := fun _ _ _ _ => False
theorem pts_imp {ifs : List Expr} {t t' : TT} (h : PTs X ifs t) (i : ∀ σ H Q, t' σ H Q → t σ H Q) : PTs X ifs t' := ⟨fun pins s σ H Q I hw => h.run pins s σ H Q I (i σ H Q hw)⟩
theorem kts_nil : PTs X [] (tBo C G W (tsts Φ .nil)) := pts_imp pts_nil fun σ H Q ⟨s, S, q⟩ => by
  unfold tsts at q
  exact Run.now q S
theorem kts_one {c : Expr} {e1} (h : PT X c (tBo C G W (tst Φ e1))) : PTs X [c] (tBo C G W (tsts Φ (.cons e1 .nil))) := pts_imp (pts_one h) fun σ H Q ⟨s, S, q⟩ => ⟨s, S, by unfold tsts at q; exact q⟩
/-- .. whoever the block's lists belong to -/
def tBoG (C : Cn) (m : M Bool) : TT := fun σ H Q => ∃ G, GOk G ∧ tBo C G W0 m σ H Q
def tDG (C : Cn) (m : M PyData) : TE := fun σ H Q => ∃ G, GOk G ∧ tD C G W0 m σ H Q
theorem tLc_run {σ : St} {H : Hp} {Q : VK} {it el ts : E} {vs : List Nat} (gok : GOk G) (hgv : ∀ j ∈ gvs g, j ∈ vs) (q : tA C G W (ev Φ (.comp el g it ts vs)) σ H Q) : tLc (tI C G W (evIt Φ false it)) (cG C.K g) (tBoG C (tsts Φ ts)) (tDG C (AM.vl (ev Φ el))) vs σ H Q := by
  obtain ⟨s, S, q⟩ := q
  unfold ev at q
  refine ⟨s, S, (Run.bnd q).imp fun p s1 H1 e1 S1 q1 J wd D hD => ?_⟩
  unfold compM at q1
  by_cases hgd : ((vs.any fun v => isOwn (sl s1 v)) || (p.2.any fun p => vs.contains p.1)) = true
  · rw [if_pos hgd] at q1; exact False.elim q1
  rw [if_neg hgd] at q1
  simp only [Bool.not_eq_true, Bool.or_eq_false_iff] at hgd
  obtain ⟨hno, hgs⟩ := hgd
  cases hL : compL p.2 vs g (tsts Φ ts) (AM.vl (ev Φ el)) p.1 (wipeA s1 vs) with
  | err c w s2 => rw [hL] at q1; exact False.elim q1
  | bad => rw [hL] at q1; exact False.elim q1
  | ok xs s2 =>
    rw [hL] at q1
    dsimp only at q1
    by_cases hz : fits xs.length = true
    · rw [if_pos hz] at q1
      have hz' : xs.length ≤ sizeLine := by simpa [fits] using hz
      obtain ⟨Gp, Y, w, wst, wy⟩ := wd
      have hn : G.Hin D = none := S1.fresh hD
      have hio : D ∉ G.io.map (·.2) := gok.io S1 hD
      have hout : ∀ q ∈ p.2, (wipe σ vs)[q.1]? = σ[q.1]? := fun q hq => wipe_out fun m => by
        rw [List.any_eq_false] at hgs
        exact hgs q hq (by simpa using m)
      let Pv : Nat → Hp → Prop := fun i H => ∃ s accv acc ys, Sim C (GD G D (.lst accv)) s (wipe σ vs) H ∧ H D = some (.lst accv) ∧ Rfs C.K H accv acc ∧ Ext H1 H ∧ compL p.2 vs g (tsts Φ ts) (AM.vl (ev Φ el)) (p.1.drop i) s = .ok ys s2 ∧ acc ++ ys = xs
      have hG : ∀ i H, i ≤ p.1.length → Pv i H → Gp H := fun i H _ ⟨s, accv, acc, ys, S, hd, hr, e, hc, eq⟩ => wst s _ H e (S.unguard hn) hout (compL_chk hc)
      refine lc_it w Pv ?_ hG ?_ ?_
      · have S2 : Sim C G s1 σ (upd H1 D (.lst [])) := S1.same (same_upd hD)
        have fr : Free (wipeA s1 vs) (wipe σ vs) D := fun j b ys q z => by
          obtain ⟨v, z1, a, ws, e, h1, _⟩ := (S1.wiped vs).slot j _ q
          rw [z] at z1
          cases z1
          cases e
          rw [hD] at h1
          cases h1
        exact ⟨_, [], [], xs, (S2.wiped vs).guard upd_same fr hn, upd_same, .nil, .same (same_upd hD), by rw [List.drop_zero]; exact hL, rfl⟩
      · intro i x H H' hi pv y
        have gp := hG i H (Nat.le_of_lt hi) pv
        obtain ⟨s, accv, acc, ys, S, hd, hr, e, hc, eq⟩ := pv
        obtain ⟨sm, d, hdi, rf⟩ := wy i H x H' hi gp y
        have hdr : p.1.drop i = d :: p.1.drop (i + 1) := by
          rw [List.drop_eq_getElem_cons hi]
          rw [List.getElem?_eq_getElem hi] at hdi
          rw [Option.some.inj hdi]
        rw [hdr] at hc
        obtain ⟨t1, hb, hc⟩ := compL_cons hc
        have S' := (S.same sm).wipedA vs
        refine cG_run g hb S' rf fun σ2 S2 hl hj => ?_
        have hw : wipe σ2 vs = wipe σ vs := by
          rw [← wipe_idem (σ := σ)]
          exact wipe_eq hl fun j hj' => hj j fun z => hj' (hgv j z)
        refine ⟨hw, GD G D (.lst accv), gok.gd, t1, S2, ?_⟩
        rcases hc with ⟨t2, y', t3, ys', h1, h2, h3, rfl⟩ | ⟨t2, h1, h3⟩
        · rw [h1]
          intro H3 e3 S3
          show (if true = true then _ else _)
          rw [if_pos rfl]
          refine ⟨GD G D (.lst accv), gok.gd, t2, S3, ?_⟩
          rw [h2]
          intro H4 e4 S4 v rfv
          have hD4 : H4 D = some (.lst accv) := S4.keep D _ (show upd G.Hin D _ D = _ from upd_same) hio (fun ps z => by cases z)
          have hlen : accv.length = acc.length := hr.length
          have hxl : acc.length + (ys'.length + 1) = xs.length := by rw [← eq]; simp
          have eD : Ext H4 (upd H4 D (.lst (accv ++ [v]))) := ext_upd hD4
          have eAll : Ext H (upd H4 D (.lst (accv ++ [v]))) := (Ext.same sm).trans (e3.trans (e4.trans eD))
          refine ⟨accv, hD4, by omega, wipeA t3 vs, accv ++ [v], acc ++ [y'], ys', ?_, upd_same, (hr.ext eAll).append (.cons (Rf.ext eD y' v rfv) .nil), e.trans eAll, h3, by rw [← eq]; simp⟩
          have z := (S4.redo (ws' := accv ++ [v]) hio hD4).wiped vs
          rw [hw] at z
          exact z
        · rw [h1]
          intro H3 e3 S3
          show (if false = true then _ else _)
          rw [if_neg (by decide)]
          have hD3 : H3 D = some (.lst accv) := S3.keep D _ (show upd G.Hin D _ D = _ from upd_same) hio (fun ps z => by cases z)
          have z := S3.wiped vs
          rw [hw] at z
          exact ⟨wipeA t2 vs, accv, acc, ys, z, hD3, hr.ext ((Ext.same sm).trans e3), e.trans ((Ext.same sm).trans e3), h3, eq⟩
      · intro H ⟨s, accv, acc, ys, S, hd, hr, e, hc, eq⟩
        rw [List.drop_length] at hc
        obtain ⟨rfl, rfl⟩ := compL_nil hc
        rw [List.append_nil] at eq
        subst eq
        have S0 := S.unguard hn
        have Sb := S1.back hno e S0
        refine q1 H e Sb (.ref D) ⟨D, accv, rfl, hd, hr, hn, fun j b ys q z => ?_⟩
        rcases sl_back q with ⟨m, q⟩ | ⟨m, q⟩
        · rw [List.any_eq_false] at hno
          have := hno j m
          rw [q] at this
          exact absurd rfl this
        · exact S.guarded hio j b ys q (by rw [wipe_out m]; exact z)
    · rw [if_neg hz] at q1
      exact False.elim q1
theorem k_comp {elt tg iter : Expr} {ifs : List Expr} {scope : Scope} {own : List (Str × Nat)} {pos : Pos} {it el ts : E} (hK : X.K = C.K) (hc : X.calm = true) (hN : X.N.Nodup) (gok : GOk G) (hi : PI X tg iter (tI C G W (evIt Φ false it))) (ok : BlkOk X.N X.env.scope scope own)
    (hg : ∀ (s : Shared) (H : Hp) (c : Addr) (cl : List (Str × Addr)) (fp : List Addr), PG (X.blk s H scope (compEnvC scope cl c X.env) fp) tg (cG X.K g))
    (ht : ∀ (s : Shared) (H : Hp) (c : Addr) (cl : List (Str × Addr)) (fp : List Addr) (G' : Gd), GOk G' → PTs (X.blk s H scope (compEnvC scope cl c X.env) fp) ifs (tBo C G' W0 (tsts Φ ts)))
    (he : ∀ (s : Shared) (H : Hp) (c : Addr) (cl : List (Str × Addr)) (fp : List Addr) (G' : Gd), GOk G' → PE (X.blk s H scope (compEnvC scope cl c X.env) fp) elt (tA C G' W0 (ev Φ el)))
    (hgv : ∀ j ∈ gvs g, j ∈ own.map (·.2)) (hs : ∀ x, foldedSetIterable iter X.env x = pure x) : PE X (.ListComp elt [⟨tg, iter, ifs, 0⟩] scope pos) (tA C G W (ev Φ (.comp el g it ts (own.map (·.2))))) :=
  pe_imp (pe_lc hc hN hi ok (fun s H c cl fp => by rw [← hK]; exact hg s H c cl fp) (tt := tBoG C (tsts Φ ts)) (fun s H c cl fp => ⟨fun pins s' σ H' Q I ⟨G', gk, hw⟩ => (ht s H c cl fp G' gk).run pins s' σ H' Q I hw⟩)
    (te := tDG C (AM.vl (ev Φ el))) (fun s H c cl fp => ⟨fun pins s' σ H' Q I ⟨G', gk, hw⟩ => (pe_vl (he s H c cl fp G' gk)).run pins s' σ H' Q I hw⟩) hs) fun σ H Q q => tLc_run gok hgv q
end
end AM
set_option Elab.async false
set_option linter.all false
set_option maxRecDepth 100000
set_option maxHeartbeats 2000000
/-! AMH: list comprehensions and tuple targets within an except suite. -/
namespace AM
open PySem PySem.Spec PyProof.Rows L2 HotX
section
variable {prog : Program} {w : World} {A : Around} {E : Value → Shared → Prop} {s : Shared}
/-- StopIteration, made and raised amid the handling, at a heap that has changed at `it` alone -/
theorem stop_hot {x1 : Addr} {h1 : Heap} {tk : Nat} (hh : A.handled = some (.ref x1)) (hx1 : ∃ (o : Obj) (vs : Array Value), h1.get? x1 = some o ∧ o.data = .fields vs ∧ vs[2]? = some .none)
    (hQ : ∀ (h' : Heap) (e : Addr), (∀ b o, h1.get? b = some o → h'.get? b = some o) → ({ s with heap := h', toks := tk } : Shared).TypeIs (.ref e) "StopIteration" → E (.ref e) { s with heap := h', toks := tk }) {Q : Fin → Shared → Prop} :
    wpAny (model prog w) A (newExc (.type "StopIteration") [] >>= fun e => (raiseNew e : Sem Fin)) Q E { s with heap := h1, toks := tk } := by
  obtain ⟨o1, vs1, g1, d1, c1⟩ := hx1
  refine wpAny_bind ?_
  simp only [newExc, newTuple]
  refine wpAny_bind (wpAny_newObj_type ?_ (by size_fits))
  refine wpAny_bind (m := firstArgMember _ _) (wpAny_of_eq (a := Value.none) (by first | rfl | (simp only [firstArgMember]; rfl)) ?_)
  refine wpAny_newObj_type ?_ (by size_fits)
  refine raiseNew_hot ⟨hh, o1, vs1, Heap.get?_push_of_some _ (Heap.get?_push_of_some _ g1), d1, c1⟩ (Nat.ne_of_lt (Heap.lt_size (Heap.get?_push_of_some _ g1))) (Heap.get?_push_size _ rfl) rfl (by first | (simp; done) | (simp; omega) | (simp only [Array.size_append]; simp; omega)) ?_
  refine hQ _ _ (fun b o e => ?_) ⟨_, Heap.get?_update_self _ (Heap.get?_push_size _ rfl) rfl, rfl⟩
  rw [Heap.get?_update_other _ _ (Nat.ne_of_gt (Heap.lt_size (Heap.get?_push_of_some _ e)))]
  exact Heap.get?_push_of_some _ (Heap.get?_push_of_some _ e)
theorem list_end_hot {it l x1 : Addr} {i : Nat} {items} {Q : Option Value → Shared → Prop} (hot : HotAt A x1 s.heap) (hne : x1 ≠ it) (hit : s.heap.IsListIter it l i) (hl : s.heap.IsList l items) (hx : items[i]? = none)
    (hQ : ∀ h', Heap.ExtBut it s.heap h' → Q none { s with heap := h' }) : wpAny (model prog w) A (pyNext (.ref it)) Q E s := by
  obtain ⟨o, ho, hc, hd⟩ := id hit
  obtain ⟨ol, hol, _, nl, hdl⟩ := hl
  obtain ⟨hh, o1, vs1, g1, d1, c1⟩ := hot
  unfold pyNext
  refine wpAny_bind (wpAny_attempt (wpAny_callSpecial?_slot (name := Str.ofString "__next__") hit.typeIs slot_listiter_next
    (wpAny_call_entry slot_listiter_next hit.typeIs entry_listiter_next ?_ (args_listiter_next _))))
  show wpAny _ _ (field (.ref it) 0 >>= _) _ _ s
  refine wpAny_bind (wpAny_field ho hd (x := .ref l) rfl ?_)
  show wpAny _ _ (if (Value.ref l == Value.none) = true then _ else _) _ _ s
  rw [if_neg (show ¬ ((Value.ref l == Value.none) = true) from Bool.false_ne_true)]
  show wpAny _ _ (field (.ref it) 1 >>= _) _ _ s
  refine wpAny_bind (wpAny_field ho hd (x := .int i 0) rfl ?_)
  show wpAny _ _ (seqItems? (.ref l) >>= _) _ _ s
  refine wpAny_bind (wpAny_seqItems hol hdl ?_)
  simp only [Int.toNat_natCast, hx]
  refine wpAny_bind (wpAny_rule (wpAny_bind (wpAny_setField ho hd (by simp) ?_)))
  show wpAny _ A.in1 (newExc (.type "StopIteration") [] >>= fun e => (raiseNew e : Sem Fin)) _ _ _
  refine stop_hot (A := A.in1) (s := s) (tk := s.toks) hh ?_ fun h' e k ty => ?_
  · exact ⟨o1, vs1, by rw [Heap.get?_update_other _ _ (Ne.symm hne)]; exact g1, d1, c1⟩
  · refine wpAny_bind (wpAny_isInstance (T := "StopIteration") (b := true) ty isSubtype_stop ?_)
    refine wpAny_pure (hQ _ fun b o hb e => k b o ?_)
    rw [Heap.get?_update_other _ _ (Ne.symm hb)]
    exact e
theorem tuple_end_hot {it t x1 : Addr} {i : Nat} {items} {Q : Option Value → Shared → Prop} (hot : HotAt A x1 s.heap) (hne : x1 ≠ it) (hit : s.heap.IsTupleIter it t i) (ht : s.heap.IsTuple t items) (hx : items[i]? = none)
    (hQ : ∀ h', Heap.ExtBut it s.heap h' → Q none { s with heap := h' }) : wpAny (model prog w) A (pyNext (.ref it)) Q E s := by
  obtain ⟨o, ho, hc, hd⟩ := id hit
  obtain ⟨ol, hol, _, nl, hdl⟩ := ht
  obtain ⟨hh, o1, vs1, g1, d1, c1⟩ := hot
  unfold pyNext
  refine wpAny_bind (wpAny_attempt (wpAny_callSpecial?_slot (name := Str.ofString "__next__") hit.typeIs F.slot_tuple_iterator_next
    (wpAny_call_entry F.slot_tuple_iterator_next hit.typeIs F.entry_tuple_iterator_next ?_ (F.args_tuple_iterator_next_1 _))))
  show wpAny _ _ (field (.ref it) 0 >>= _) _ _ s
  refine wpAny_bind (wpAny_field ho hd (x := .ref t) rfl ?_)
  show wpAny _ _ (if (Value.ref t == Value.none) = true then _ else _) _ _ s
  rw [if_neg (show ¬ ((Value.ref t == Value.none) = true) from Bool.false_ne_true)]
  show wpAny _ _ (field (.ref it) 1 >>= _) _ _ s
  refine wpAny_bind (wpAny_field ho hd (x := .int i 0) rfl ?_)
  show wpAny _ _ (seqItems? (.ref t) >>= _) _ _ s
  refine wpAny_bind (wpAny_seqItems hol hdl ?_)
  simp only [Int.toNat_natCast, hx]
  refine wpAny_bind (wpAny_rule (wpAny_bind (wpAny_setField ho hd (by simp) ?_)))
  show wpAny _ A.in1 (newExc (.type "StopIteration") [] >>= fun e => (raiseNew e : Sem Fin)) _ _ _
  refine stop_hot (A := A.in1) (s := s) (tk := s.toks) hh ?_ fun h' e k ty => ?_
  · exact ⟨o1, vs1, by rw [Heap.get?_update_other _ _ (Ne.symm hne)]; exact g1, d1, c1⟩
  · refine wpAny_bind (wpAny_isInstance (T := "StopIteration") (b := true) ty isSubtype_stop ?_)
    refine wpAny_pure (hQ _ fun b o hb e => k b o ?_)
    rw [Heap.get?_update_other _ _ (Ne.symm hb)]
    exact e
/-- a, b = t amid the handling -/
theorem assign_tuple_hot {env : Env} {elts : List Expr} {k : Nat} {pos : Pos} {t x1 : Addr} {items : Array Value} {Q : Unit → Shared → Prop} (hot : HotAt A x1 s.heap) (ht : s.heap.IsTuple t items)
    (hn : (assignEach elts env).length = items.size) (hstar : (assignEach elts env).findIdx? (·.1) = none)
    (h : ∀ h', Heap.ExtBut s.heap.objs.size s.heap h' → wpAny (model prog w) A (assignInOrder ((assignEach elts env).map (·.2)) items.toList) Q E { s with heap := h' }) :
    wpAny (model prog w) A (assign (.Tuple elts k pos) env (.ref t)) Q E s := by
  rw [arm_assign_Tuple]
  refine wpAny_bind (wpAny_standAt ?_)
  unfold unpack
  rw [hn, hstar]
  refine wpAny_bind (wpAny_holding ?_)
  have hlt : t ≠ s.heap.objs.size := by obtain ⟨o, ho, _⟩ := ht; exact Nat.ne_of_lt (Heap.lt_size ho)
  obtain ⟨hh, o1, vs1, g1, d1, c1⟩ := hot
  have hxl : x1 ≠ s.heap.objs.size := Nat.ne_of_lt (Heap.lt_size g1)
  unfold unpackItems
  refine wpAny_bind ?_
  unfold notIterableAtAll
  refine wpAny_bind (wpAny_specialOf ht.typeIs F.slot_tuple_iter.lookup ?_)
  refine wpAny_pure ?_
  simp only [Bool.false_eq_true, if_false]
  refine wpAny_bind (wpAny_holding (wpAny_pyIter_tuple ht ?_))
  refine wpAny_bind (wpAny_holding (wpAny_draw_tuple hlt items.size 0 _ _ ⟨_, Heap.get?_push_size _ rfl, rfl, rfl⟩ (ht.push _) (by omega) fun h₁ hit₁ hs₁ => ?_))
  have hall : List.take items.size (List.drop 0 items.toList) = items.toList := by
    rw [List.drop_zero]; exact List.take_of_length_le (by simp)
  rw [hall]
  rw [if_neg (by simp)]
  have ht₁ : h₁.IsTuple t items := (ht.push _).extBut hs₁.extBut hlt
  refine wpAny_bind (wpAny_holding (tuple_end_hot (x1 := x1) ⟨hh, o1, vs1, hs₁.extBut _ _ hxl (Heap.get?_push_of_some _ g1), d1, c1⟩ hxl hit₁ ht₁ (by simp) fun h₂ he₂ => ?_))
  simp only [Option.isSome_none, Bool.false_eq_true, if_false]
  exact wpAny_pure (h h₂ fun b o hb e => he₂ b o hb (hs₁.extBut b o hb (Heap.get?_push_of_some _ e)))
end

/-! ### contexts -/
/-- the handled error is known at every state -/
def HotX (X : Cx) : Prop := ∀ (pins : List (Addr × Obj)) (σ : L2.St) (H : Hp) (s : Shared), Inv X pins σ H s → ∃ x1, HotAt X.A x1 s.heap
theorem kg_tpH {X : Cx} {es : List Expr} {k : Nat} {pos : Pos} {gs : AM.G} (hx : HotX X) (h : PGs X es (cGs X.K gs)) (hs : es.all nst = true) (hl : es.length = glen gs) : PG X (.Tuple es k pos) (cG X.K (.tp gs)) := by
  unfold cG
  refine ⟨fun pins s σ H v u Q I r hw => ?_⟩
  obtain ⟨a, xs, e1, hq, hlen, hw⟩ := hw
  subst e1
  cases r
  obtain ⟨its, rv, ht, hz⟩ := I.tuple hq
  obtain ⟨x1, hot⟩ := hx pins σ H s I
  refine assign_tuple_hot hot (show s.heap.IsTuple a its.toArray from ht) (by rw [(assign_len hs).1, hl, ← hlen, rv.length]; simp) (assign_len hs).2 fun h' hx => ?_
  have I1 : Inv X pins σ H { s with heap := h' } := I.kept (t' := s.toks) fun b o e => hx b o (Nat.ne_of_lt (Heap.lt_size e)) e
  exact h.run pins _ σ H xs _ Q I1 (by simpa using rv) hw

/-! ### an iterator of a list or a tuple, amid the handling -/
structure TurnX (P : Program) (w : World) (K : PySem.W.Frag) (tg : Expr) (J : It) (it : Addr) (tn : Nat → Heap → Prop) : Prop where
  obj : ∀ i h, tn i h → ∃ o, h.get? it = some o ∧ ∀ v, o.data ≠ .cell v
  keep : ∀ i h h', tn i h → (∀ o, h.get? it = some o → h'.get? it = some o) → tn i h'
  item : ∀ (X : Cx), X.prog = P → X.w = w → X.K = K → ∀ (i : Nat) (pins : List (Addr × Obj)) (s : Shared) (σ : L2.St) (H : Hp) (E : Value → Shared → Prop), Inv X pins σ H s → FpOk X pins H it → tn i s.heap → J.go i H →
    wpAny (model P w) X.A (pyNext (.ref it)) (fun r s1 => ∃ u, r = some u ∧
      wpAny (model P w) X.A (letOwnedTupleGo tg (.ref it) u) (fun _ s2 => ∃ x H', Inv X pins σ H' s2 ∧ RelV x u ∧ J.yld i H x H' ∧ tn (i + 1) s2.heap ∧ H' it = none) E s1) E s
  done : ∀ (X : Cx), X.prog = P → X.w = w → X.K = K → HotX X → ∀ (i : Nat) (pins : List (Addr × Obj)) (s : Shared) (σ : L2.St) (H : Hp) (E : Value → Shared → Prop), Inv X pins σ H s → FpOk X pins H it → (∃ x1, HotAt X.A x1 s.heap ∧ x1 ≠ it) → tn i s.heap → J.stop i H →
    wpAny (model P w) X.A (pyNext (.ref it)) (fun r s1 => r = none ∧ Inv X pins σ H s1) E s
  self : ∀ (A : Around) (i : Nat) (s : Shared) (Q : Value → Shared → Prop) (E : Value → Shared → Prop), tn i s.heap → Q (.ref it) s → wpAny (model P w) A (pyIter (.ref it)) Q E s
theorem turn_listX {P : Program} {w : World} {K : PySem.W.Frag} {tg : Expr} (a it : Addr) : TurnX P w K tg (Itl K a) it (fun i h => h.IsListIter it a i) where
  obj := fun i h st => by
    obtain ⟨o, e, c, d⟩ := st
    exact ⟨o, e, fun v z => by rw [d] at z; cases z⟩
  keep := fun i h h' st k => st.at fun o e => k o e
  item := by
    intro X hP hw hK i pins s σ H E I hf st hg
    subst hP hw hK
    obtain ⟨xs, x, hq, hx⟩ := hg
    obtain ⟨its, rv, p, hz⟩ := I.list hq
    obtain ⟨u, hu, ru⟩ := rv.get hx
    obtain ⟨f0, f1, f2, f3, f4, f5⟩ := hf
    refine wpAny_pyNext_list_item st p.isList (x := u) (by simpa using hu) fun h' st' sb => ?_
    have I1 : Inv X pins σ H { s with heap := h' } := I.turned (t' := s.toks) (fun b o hb e => (sb.2 b hb).trans e) f0 f1 f3 f4 f5
    obtain ⟨o, e, c, d⟩ := id st'
    exact ⟨u, rfl, go_of (s := { s with heap := h' }) e c d (by decide) ⟨x, H, I1, ru, ⟨rfl, fun ys hy => by rw [I.list_inj hy hq]; exact hx⟩, st', f0⟩⟩
  done := by
    intro X hP hw hK hx i pins s σ H E I hf hot st hg
    subst hP hw hK
    obtain ⟨xs, hq, hx⟩ := hg
    obtain ⟨its, rv, p, hz⟩ := I.list hq
    obtain ⟨f0, f1, f2, f3, f4, f5⟩ := hf
    have hl := rv.length
    obtain ⟨x1, hot, hne⟩ := hot
    exact list_end_hot hot hne st p.isList (by simp; omega) fun h' eb => ⟨rfl, I.turned (t' := s.toks) (fun b o hb e => eb b o hb e) f0 f1 f3 f4 f5⟩
  self := fun _ _ _ _ _ st h => wpAny_pyIter_listiter st h
theorem turn_tupX {P : Program} {w : World} {K : PySem.W.Frag} {tg : Expr} (a it : Addr) : TurnX P w K tg (Itt K a) it (fun i h => h.IsTupleIter it a i) where
  obj := fun i h st => by
    obtain ⟨o, e, c, d⟩ := st
    exact ⟨o, e, fun v z => by rw [d] at z; cases z⟩
  keep := fun i h h' st k => st.at fun o e => k o e
  item := by
    intro X hP hw hK i pins s σ H E I hf st hg
    subst hP hw hK
    obtain ⟨xs, x, hq, hx⟩ := hg
    obtain ⟨its, rv, p, hz⟩ := I.tuple hq
    obtain ⟨u, hu, ru⟩ := rv.get hx
    obtain ⟨f0, f1, f2, f3, f4, f5⟩ := hf
    refine wpAny_pyNext_tuple_item st (show s.heap.IsTuple a its.toArray from p) (x := u) (by simpa using hu) fun h' st' sb => ?_
    have I1 : Inv X pins σ H { s with heap := h' } := I.turned (t' := s.toks) (fun b o hb e => (sb.2 b hb).trans e) f0 f1 f3 f4 f5
    obtain ⟨o, e, c, d⟩ := id st'
    exact ⟨u, rfl, go_of (s := { s with heap := h' }) e c d (by decide) ⟨x, H, I1, ru, ⟨rfl, fun ys hy => by rw [I.tuple_inj hy hq]; exact hx⟩, st', f0⟩⟩
  done := by
    intro X hP hw hK hx i pins s σ H E I hf hot st hg
    subst hP hw hK
    obtain ⟨xs, hq, hx⟩ := hg
    obtain ⟨its, rv, p, hz⟩ := I.tuple hq
    obtain ⟨f0, f1, f2, f3, f4, f5⟩ := hf
    have hl := rv.length
    obtain ⟨x1, hot, hne⟩ := hot
    exact tuple_end_hot hot hne st (show s.heap.IsTuple a its.toArray from p) (by simp; omega) fun h' eb => ⟨rfl, I.turned (t' := s.toks) (fun b o hb e => eb b o hb e) f0 f1 f3 f4 f5⟩
  self := fun _ _ _ _ _ st h => wpAny_pyIter_tupleiter st h
/-- the block's context knows the handled error, too -/
theorem hot_blk {X : Cx} {pins : List (Addr × Obj)} {σ : L2.St} {H : Hp} {s : Shared} {scope : Scope} {ce : Env} {it : Addr} (hc : L2H.HotC X) (I : Inv X pins σ H s) (hf : FpOk X pins H it) :
    ∃ x1, x1 ≠ it ∧ ∀ (pins' : List (Addr × Obj)) (σ' : L2.St) (H' : Hp) (s' : Shared), Inv (X.blk s H scope ce [it]) pins' σ' H' s' → HotAt X.A x1 s'.heap := by
  obtain ⟨p, ⟨hh, v1, e1, c1⟩, hp⟩ := hc
  obtain ⟨g, n, nL, nF, nc⟩ := I.pin p (List.mem_append_left _ hp)
  have nit : p.1 ≠ it := hf.2.2.2.2.2 p (List.mem_append_left _ hp)
  have nst : p.1 ∉ frs X.stack := fun z => by
    rcases List.mem_cons.mp (I.stkSub _ z) with e | e
    · exact nL e
    · exact nF e
  refine ⟨p.1, nit, fun pins' σ' H' s' I' => ⟨hh, p.2, v1, I'.base.keep p.1 p.2 g n nst (fun z => nit (List.mem_singleton.mp z)), e1, c1⟩⟩
section
variable {X : Cx}
/-- [elt for target in a list or a tuple if ..] amid the handling -/
theorem pe_lcH {elt tg iter : Expr} {ifs : List Expr} {scope : Scope} {own : List (Str × Nat)} {pos : Pos} {tl : TE} {g : TG} {tt : TT} {te : TE} (hc : L2H.HotC X) (hN : X.N.Nodup) (hl : PE X iter tl) (ok : BlkOk X.N X.env.scope scope own)
    (hg : ∀ (s : Shared) (H : Hp) (C : Addr) (cl : List (Str × Addr)) (fp : List Addr), HotX (X.blk s H scope (compEnvC scope cl C X.env) fp) → PG (X.blk s H scope (compEnvC scope cl C X.env) fp) tg g) (ht : ∀ (s : Shared) (H : Hp) (C : Addr) (cl : List (Str × Addr)) (fp : List Addr), PTs (X.blk s H scope (compEnvC scope cl C X.env) fp) ifs tt)
    (he : ∀ (s : Shared) (H : Hp) (C : Addr) (cl : List (Str × Addr)) (fp : List Addr), PE (X.blk s H scope (compEnvC scope cl C X.env) fp) elt te) (hs : ∀ x, foldedSetIterable iter X.env x = pure x) :
    PE X (.ListComp elt [⟨tg, iter, ifs, 0⟩] scope pos) (tLc (iSeq X.K tl) g tt te (own.map (·.2))) := by
  refine ⟨fun pins s σ H Q I h => ?_⟩
  rw [eval_ListComp]
  have hfree : ∀ y ∈ scope.names, y.2 = .free → ∃ c, X.env.cells.lookup y.1 = some c := fun y hy e => by
    rcases ok.free y hy e with k | k
    · exact I.ok.has _ (.inl k)
    · exact I.ok.has _ (.inr k)
  -- the iterator
  have start : wpAny (model X.prog X.w) X.A (eval iter X.env) (fun v s1 => wpAny (model X.prog X.w) X.A (pyIter v) (fun itv s2 => ∃ (it : Addr) (tn : Nat → Heap → Prop) (J : It) (H' : Hp), itv = .ref it ∧ Inv X pins σ H' s2 ∧ TurnX X.prog X.w X.K tg J it tn ∧ tn 0 s2.heap ∧ FpOk X pins H' it ∧
      (∀ D, H' D = none → ∃ W : Nat → Nat → Hp → Prop, (∃ m, W 0 m (upd H' D (.lst []))) ∧ ∀ i m H, W i m H →
  (J.stop i H ∧ Q (.ref D) H) ∨ (J.go i H ∧ ∃ Nx : Hp → Prop, (∀ H', Nx H' → ∃ m', m' < m ∧ W (i + 1) m' H') ∧ ∀ x H', J.yld i H x H' → g x (wipe σ (own.map (·.2))) H' fun σ2 H2 => wipe σ2 (own.map (·.2)) = wipe σ (own.map (·.2)) ∧ tt σ2 H2 fun b H3 =>
    if b = true then te σ2 H3 fun y H4 => ∃ acc, H4 D = some (.lst acc) ∧ acc.length < sizeLine ∧ Nx (upd H4 D (.lst (acc ++ [y]))) else Nx H3))) X.xe s1) X.xe s := by
    refine thn (hl.run pins s σ H _ I h) fun v s1 ⟨x, H1, I1, r1, a, e, q1⟩ => ?_
    subst e
    cases r1
    have fresh : ∀ {h' : Heap} {tk : Nat}, (∀ b o, s1.heap.get? b = some o → h'.get? b = some o) → FpOk X pins H1 s1.heap.objs.size := fun {h' tk} k => I1.fpOk (Nat.le_refl _) (I1.hok.fresh (Nat.le_refl _))
    rcases q1 with ⟨xs, hq, q⟩ | ⟨xs, hq, q⟩
    · obtain ⟨its, rv, p, hz⟩ := I1.list hq
      refine wpAny_pyIter_list p.isList ⟨s1.heap.objs.size, _, _, H1, rfl, I1.kept (t' := s1.toks) fun b o e => Heap.get?_push_of_some _ e, turn_listX a _, ⟨_, Heap.get?_push_size _ rfl, rfl, rfl⟩, I1.fpOk (Nat.le_refl _) (I1.hok.fresh (Nat.le_refl _)), q⟩
    · obtain ⟨its, rv, p, hz⟩ := I1.tuple hq
      refine wpAny_pyIter_tuple (show s1.heap.IsTuple a its.toArray from p) ⟨s1.heap.objs.size, _, _, H1, rfl, I1.kept (t' := s1.toks) fun b o e => Heap.get?_push_of_some _ e, turn_tupX a _, ⟨_, Heap.get?_push_size _ rfl, rfl, rfl⟩, I1.fpOk (Nat.le_refl _) (I1.hok.fresh (Nat.le_refl _)), q⟩
  refine wpAny_comprehension_free (use := none) rfl hs (closure_ok hfree) ok.kind (fun y hy e => by rw [ok.uniq y hy, e]) (thn start fun xv s1 hx => thn hx fun itv s2 h2 => ?_)
  obtain ⟨it, tn, J, H2, e, I2, T, st2, f2, q⟩ := h2
  subst e
  refine wpAny_newObj_type (newEnv_comp ?_) (by show 0 ≤ sizeLine; decide)
  generalize hD : s2.heap.objs.size = D
  have hDn : H2 D = none := I2.hok.fresh (Nat.le_of_eq hD)
  obtain ⟨W, ⟨m0, w0⟩, turn⟩ := q D hDn
  generalize hs3 : ({ s2 with heap := s2.heap.push { cls := .type "list", data := .seq ([] : List Value).toArray } } : Shared) = s3
  have h3 : s3.heap = s2.heap.push { cls := .type "list", data := .seq ([] : List Value).toArray } := by rw [← hs3]
  have I3 : Inv X pins σ (upd H2 D (.lst [])) s3 := by
    rw [← hs3]
    refine I2.laid (t' := s2.toks) (fun b o e => Heap.get?_push_of_some _ e) (Nat.le_of_eq hD) ⟨Nat.zero_le _, [], 0, .nil, ?_⟩
    rw [← hD]
    exact Heap.get?_push_size _ rfl
  have hlt : it < s2.heap.objs.size := by
    obtain ⟨o, e, _⟩ := T.obj _ _ st2
    exact Heap.lt_size e
  have f3 : FpOk X pins (upd H2 D (.lst [])) it := ⟨by rw [upd_ne (by rw [← hD]; exact Nat.ne_of_lt hlt)]; exact f2.1, f2.2⟩
  have st3 : tn 0 s3.heap := T.keep _ _ _ st2 fun o e => by rw [h3]; exact Heap.get?_push_of_some _ e
  have I4 := block_start (fp := [it]) I3 ok hN (fun b hb => by
    rw [List.mem_singleton.mp hb]
    exact ⟨f3, by rw [h3, Heap.size_push]; exact Nat.lt_succ_of_lt hlt⟩)
  have pg := hg s3 (upd H2 D (.lst [])) s3.heap.objs.size (cellsFrom (s3.heap.objs.size + 1) scope.names (cloFrom X.env.cells scope.names [])) [it]
  have pt := ht s3 (upd H2 D (.lst [])) s3.heap.objs.size (cellsFrom (s3.heap.objs.size + 1) scope.names (cloFrom X.env.cells scope.names [])) [it]
  have pe := he s3 (upd H2 D (.lst [])) s3.heap.objs.size (cellsFrom (s3.heap.objs.size + 1) scope.names (cloFrom X.env.cells scope.names [])) [it]
  obtain ⟨x1, hx1, hotB⟩ := hot_blk (scope := scope) (ce := compEnvC scope (cellsFrom (s3.heap.objs.size + 1) scope.names (cloFrom X.env.cells scope.names [])) s3.heap.objs.size X.env) hc I3 f3
  have hotX : HotX (X.blk s3 (upd H2 D (.lst [])) scope (compEnvC scope (cellsFrom (s3.heap.objs.size + 1) scope.names (cloFrom X.env.cells scope.names [])) s3.heap.objs.size X.env) [it]) := fun pins' σ' H' s' I' => ⟨x1, hotB pins' σ' H' s' I'⟩
  have pg := pg hotX
  show codeAny _ _ (.compStart (.ListComp elt [⟨tg, iter, ifs, 0⟩] scope pos) 0 (.ref it) (.ref D) (compEnvC scope (cellsFrom (s3.heap.objs.size + 1) scope.names (cloFrom X.env.cells scope.names [])) s3.heap.objs.size X.env)) (compPost (model X.prog X.w) X.A X.xe none (EP X pins σ Q) (.ref D) s3.heap.objs.size) { s3 with heap := pushCells (s3.heap.push { cls := .type "dict", data := .dict #[] }) scope.names }
  generalize hce : compEnvC scope (cellsFrom (s3.heap.objs.size + 1) scope.names (cloFrom X.env.cells scope.names [])) s3.heap.objs.size X.env = ce at I4 pg pt pe hotB hotX ⊢
  have cL : ce.locals = s3.heap.objs.size := by subst hce; rfl
  generalize hH3 : upd H2 D (.lst []) = H3 at I3 I4 pg pt pe w0 f3 hotB hotX
  generalize hs4 : ({ s3 with heap := pushCells (s3.heap.push { cls := .type "dict", data := .dict #[] }) scope.names } : Shared) = s4 at I4 ⊢
  have st4 : tn 0 s4.heap := T.keep _ _ _ st3 fun o e => by rw [← hs4]; exact pushCells_keeps _ _ _ _ (Heap.get?_push_of_some _ e)
  have stat : ∀ {σ' : L2.St} {H' : Hp} {s' : Shared}, Inv (X.blk s3 H3 scope ce [it]) [] σ' H' s' → H' it = none → FpOk (X.blk s3 H3 scope ce [it]) [] H' it := fun {σ' H' s'} I' hn =>
    have hb : it ∈ (X.blk s3 H3 scope ce [it]).ex := List.mem_singleton.mpr rfl
    ⟨hn, (I'.ok.exf it hb).1, I'.ok.exfs it hb, .inl hb, fun x c e => (I'.ok.exf it hb).2 x c e, fun p hp => absurd (show p ∈ ([] : List (Addr × Obj)) ++ [] from hp) (by simp)⟩
  refine codeAny_compStart_list ?_ (T.self X.A 0 _ _ _ st4 ?_) <;>
  · refine compLoop_any (fun n s' => ∃ i H', Inv (X.blk s3 H3 scope ce [it]) [] (wipe σ (own.map (·.2))) H' s' ∧ tn i s'.heap ∧ H' it = none ∧ W i n H') ?_ m0 ⟨0, H3, I4, st4, f3.1, w0⟩
    rintro n s5 ⟨i, H5, I5, st5, n5, w5⟩
    rcases turn i n H5 w5 with ⟨stop, qq⟩ | ⟨go, Nx, hNx, step⟩
    · have td := T.done (X.blk s3 H3 scope ce [it]) rfl rfl rfl hotX i [] s5 _ H5 (fun _ _ => False) I5 (stat I5 n5) ⟨x1, hotB _ _ _ _ I5, hx1⟩ st5 stop
      refine thnF td fun r s6 ⟨hr, I6⟩ => ?_
      subst hr
      have I7 : Inv X pins σ H5 s6 := I3.call' (ch := [it]) I6.os I6.base I6.hok I6.bare fun b hb => by
        rw [List.mem_singleton.mp hb]
        exact ⟨f3.2.2.2.1, f3.2.1, f3.2.2.2.2.1, f3.2.2.2.2.2⟩
      have nC : H5 s3.heap.objs.size = none := by
        have z : H5 ce.locals = none := I6.free
        rw [cL] at z
        exact z
      obtain ⟨m, hn, _⟩ := I6.loc
      have hn : s6.heap.Ns ce.locals m := hn
      rw [cL] at hn
      obtain ⟨g0, g1, g2, g3, g4, g5⟩ := I3.fpOk (Nat.le_refl _) nC
      exact ⟨m, hn, fun h'' sb => ⟨.ref D, H5, I7.turned (t' := s6.toks) (fun b o hb e => (sb.2 b hb).trans e) g0 g1 g3 g4 g5, rfl, qq⟩⟩
    · have ti := T.item (X.blk s3 H3 scope ce [it]) rfl rfl rfl i [] s5 _ H5 (fun _ _ => False) I5 (stat I5 n5) st5 go
      refine thnF ti fun r s6 ⟨u, hr, h6⟩ => ?_
      subst hr
      refine thnF h6 fun _ s7 ⟨x, H7, I7, r7, y7, st7, n7⟩ => ?_
      have I7' := I7.pinned (fp := [it]) (fun b hb => by rw [List.mem_singleton.mp hb]; exact stat I7 n7) (fun b hb => by rw [List.mem_singleton.mp hb]; exact T.obj _ _ st7)
      refine thnF (pg.run _ s7 _ H7 x u _ I7' r7 (step x H7 y7)) fun _ s8 ⟨σ8, H8, I8, hw8, q8⟩ => ?_
      refine thnF (pt.run _ s8 σ8 H8 _ I8 q8) fun b s9 ⟨H9, I9, q9⟩ => ?_
      have fin : ∀ {s' : Shared} {H' : Hp}, Inv (X.blk s3 H3 scope ce [it]) ([] ++ pinsAt [it] s7.heap) σ8 H' s' → Nx H' → ∃ m, m < n ∧ ∃ i H', Inv (X.blk s3 H3 scope ce [it]) [] (wipe σ (own.map (·.2))) H' s' ∧ tn i s'.heap ∧ H' it = none ∧ W i m H' := fun {s' H'} I' nx => by
        obtain ⟨m', hm, w'⟩ := hNx H' nx
        have pin' : ∀ o, s7.heap.get? it = some o → s'.heap.get? it = some o ∧ H' it = none := fun o e =>
          let z := I'.pin (it, o) (List.mem_append_right _ (List.mem_append_right _ (mem_pinsAt (List.mem_singleton.mpr rfl) e)))
          ⟨z.1, z.2.1⟩
        have hl : (wipe σ (own.map (·.2))).length = σ8.length := by rw [← hw8, wipe_length]
        obtain ⟨o, e, _⟩ := T.obj _ _ st7
        refine ⟨m', hm, i + 1, H', (I'.unpinned (pins := [])).weak hl (fun j v e => ?_), T.keep _ _ _ st7 fun o e => (pin' o e).1, (pin' o e).2, w'⟩
        rw [← hw8] at e
        exact (wipe_some e).1
      cases b with
      | false =>
        simp only [Bool.false_eq_true, if_false] at q9 ⊢
        exact fin I9 q9
      | true =>
        simp only [if_true] at q9 ⊢
        refine thnF (pe.run _ s9 σ8 H9 _ I9 q9) fun z s10 ⟨yv, H10, I10, r10, acc, hD10, hz10, nx⟩ => ?_
        exact app_ok (X := X.blk s3 H3 scope ce [it]) I10 hD10 hz10 r10 fun s11 I11 => fin I11 nx
end

theorem k_compH {X : Cx} {C : Cn} {G : Gd} {W : Wish} {Φ : Calls} {g : AM.G} {elt tg iter : Expr} {ifs : List Expr} {scope : Scope} {own : List (Str × Nat)} {pos : Pos} {it el ts : E} (hK : X.K = C.K) (hc : L2H.HotC X) (hN : X.N.Nodup) (gok : GOk G) (hi : PE X iter (tA C G W (ev Φ it))) (hd : evIt Φ false it = bnd (itA false (ev Φ it)) srcOf) (ok : BlkOk X.N X.env.scope scope own)
    (hg : ∀ (s : Shared) (H : Hp) (c : Addr) (cl : List (Str × Addr)) (fp : List Addr), HotX (X.blk s H scope (compEnvC scope cl c X.env) fp) → PG (X.blk s H scope (compEnvC scope cl c X.env) fp) tg (cG X.K g))
    (ht : ∀ (s : Shared) (H : Hp) (c : Addr) (cl : List (Str × Addr)) (fp : List Addr) (G' : Gd), GOk G' → PTs (X.blk s H scope (compEnvC scope cl c X.env) fp) ifs (tBo C G' W0 (tsts Φ ts)))
    (he : ∀ (s : Shared) (H : Hp) (c : Addr) (cl : List (Str × Addr)) (fp : List Addr) (G' : Gd), GOk G' → PE (X.blk s H scope (compEnvC scope cl c X.env) fp) elt (tA C G' W0 (ev Φ el)))
    (hgv : ∀ j ∈ gvs g, j ∈ own.map (·.2)) (hs : ∀ x, foldedSetIterable iter X.env x = pure x) : PE X (.ListComp elt [⟨tg, iter, ifs, 0⟩] scope pos) (tA C G W (ev Φ (.comp el g it ts (own.map (·.2))))) :=
  pe_imp (pe_lcH hc hN (k_itA (fr := false) hi) ok (fun s H c cl fp hx => by rw [← hK]; exact hg s H c cl fp hx) (tt := tBoG C (tsts Φ ts)) (fun s H c cl fp => ⟨fun pins s' σ H' Q I ⟨G', gk, hw⟩ => (ht s H c cl fp G' gk).run pins s' σ H' Q I hw⟩)
    (te := tDG C (AM.vl (ev Φ el))) (fun s H c cl fp => ⟨fun pins s' σ H' Q I ⟨G', gk, hw⟩ => (pe_vl (he s H c cl fp G' gk)).run pins s' σ H' Q I hw⟩) hs) fun σ H Q q => iseq_of hK hd (tLc_run gok hgv q)
end AM
set_option Elab.async false
set_option linter.all false
set_option maxRecDepth 100000
set_option maxHeartbeats 1000000
/-! AM10: calls of defs; caught errors. -/
namespace AM
open PySem PySem.Spec PyProof.Rows L2

inductive F2 {α β : Type} (R : α → β → Prop) : List α → List β → Prop
  | nil : F2 R [] []
  | cons {a : α} {b : β} {as : List α} {bs : List β} : R a b → F2 R as bs → F2 R (a :: as) (b :: bs)

/-! ### what a def promises -/
def RArgs (C : Cn) (H : Hp) : List V → List FArg → Prop
  | [], [] => True
  | v :: vs, .val d :: fs => Rf C.K H v d ∧ RArgs C H vs fs
  | v :: vs, .io xs :: fs => (∃ a ws, v = .ref a ∧ H a = some (.lst ws) ∧ Rfs C.K H ws xs) ∧ RArgs C H vs fs
  | _, _ => False
/-- the lent lists' places -/
def ioA : List V → List FArg → List Addr
  | _ :: vs, .val _ :: fs => ioA vs fs
  | .ref a :: vs, .io _ :: fs => a :: ioA vs fs
  | _ :: vs, .io _ :: fs => ioA vs fs
  | _, _ => []
def RIos (C : Cn) (H : Hp) : List Addr → List (List PyData) → Prop
  | [], [] => True
  | a :: as, x :: xs => (∃ ws, H a = some (.lst ws) ∧ Rfs C.K H ws x) ∧ RIos C H as xs
  | _, _ => False
def RRv (C : Cn) (H H' : Hp) (v : V) : RV → Prop
  | .val d => Rf C.K H' v d
  | .new xs => ∃ a ws, v = .ref a ∧ H a = none ∧ H' a = some (.lst ws) ∧ Rfs C.K H' ws xs
/-- all stays but the lent lists -/
def Kp (H H' : Hp) (io : List Addr) : Prop := (∀ a o, H a = some o → a ∉ io → (∀ ps, o ≠ .tbl ps) → H' a = some o) ∧ ∀ a o, H a = some o → ∃ o', H' a = some o' ∧ ((∀ ps, o ≠ .tbl ps) → ∀ ps, o' ≠ .tbl ps)
def spR (C : Cn) (H : Hp) (io : List Addr) (Q : VK) (E : XK) : FR → Prop
  | .ret r ios => ∀ v H', Kp H H' io → LamX.Tabs C.T H' → RIos C H' io ios → RRv C H H' v r → Q v H'
  | .err c w ios => ∀ d vw H', Kp H H' io → LamX.Tabs C.T H' → RIos C H' io ios → H' d = some (.xd [(("what" : Str), vw)]) → Rf C.K H' vw w → E (.ref (C.cad c)) (some d) H'
  | .bad => False
def spF (C : Cn) (Φ : Calls) (f np : Nat) : Sp := fun vs H Q E => vs.length = np ∧ ∃ args, RArgs C H vs args ∧ (ioA vs args).Nodup ∧ LamX.Tabs C.T H ∧ spR C H (ioA vs args) Q E (Φ.go f args)

/-! ### at the caller -/
/-- arguments as they are lent: the slots is, at the state s -/
def PArgs (C : Cn) (s : AS) (σ : St) (H : Hp) : List V → List FArg → List Nat → Prop
  | [], [], [] => True
  | v :: vs, .val d :: fs, is => Rf C.K H v d ∧ PArgs C s σ H vs fs is
  | v :: vs, .io xs :: fs, i :: is => (σ[i]? = some (some v) ∧ ∃ b, sl s i = some (.own b xs)) ∧ i ∉ is ∧ PArgs C s σ H vs fs is
  | _, _, _ => False
section
variable {C : Cn} {G : Gd} {W : Wish} {σ : St}
theorem prep_run {P : Hp → Prop} : ∀ {avs : List AV} {vs : List V} {bs : List Bool} {s s' : AS} {H : Hp} {fs : List FArg} {is : List Nat}, Sim C G s σ H → RNs C σ H vs avs → prep avs bs s = some (fs, is, s') →
    (∀ H', Ext H H' → Sim C G s' σ H' → PArgs C s' σ H' vs fs is → P H') → Lk P H
  | [], [], bs, s, s', H, fs, is, S, r, h, k => by
    unfold prep at h
    cases h
    exact .now (k H (Ext.refl H) S True.intro)
  | [], _ :: _, _, _, _, _, _, _, _, r, _, _ => r.elim
  | _ :: _, [], _, _, _, _, _, _, _, r, _, _ => r.elim
  | a :: avs, v :: vs, bs, s, s', H, fs, is, S, r, h, k => by
    have plain : ∀ {h : (match fz a s with
      | .ok d s1 => (prep avs bs.tail s1).map fun (fs, is, s') => (FArg.val d :: fs, is, s')
      | _ => none) = some (fs, is, s')}, Lk P H := fun {h} => by
      cases hz : fz a s with
      | ok d s1 =>
        rw [hz] at h
        obtain ⟨⟨fs1, is1, s1'⟩, h1, h2⟩ := Option.map_eq_some_iff.mp h
        cases h2
        refine Lk.join (fz_run (W := W0) (k := fun d' s2 _ => d' = d ∧ s2 = s1) (P := Lk P) S r.1.ra (by rw [hz]; exact fun H' _ _ => ⟨rfl, rfl⟩) fun d' s2 H1 e1 S1 rf ⟨ed, es⟩ => ?_)
        subst ed es
        exact prep_run S1 (r.2.ext e1) h1 fun H2 e2 S2 pa => k H2 (e1.trans e2) S2 ⟨Rf.ext e2 d' v rf, pa⟩
      | err c w s1 => rw [hz] at h; cases h
      | bad => rw [hz] at h; cases h
    unfold prep at h
    dsimp only at h
    split at h
    · rename_i i xs0 heq
      obtain ⟨⟨fs1, is1, s1⟩, h1, h2⟩ := Option.bind_eq_some_iff.mp h
      dsimp only at h2
      have ha : a = .bor i := by
        split at heq
        · rename_i j hh
          split at heq
          · cases heq; rfl
          · cases heq
        · cases heq
      subst ha
      by_cases hi : i ∈ is1
      · rw [if_pos hi] at h2; cases h2
      · rw [if_neg hi] at h2
        split at h2
        · rename_i b ys hsl
          cases h2
          exact prep_run S r.2 h1 fun H2 e2 S2 pa => k H2 e2 S2 ⟨⟨r.1, b, hsl⟩, hi, pa⟩
        · cases h2
    · exact plain (h := h)
theorem PArgs.rargs {s : AS} {H : Hp} (S : Sim C G s σ H) : ∀ {vs : List V} {fs : List FArg} {is : List Nat}, PArgs C s σ H vs fs is → RArgs C H vs fs
  | [], [], [], _ => True.intro
  | v :: vs, .val d :: fs, is, h => ⟨h.1, PArgs.rargs S h.2⟩
  | v :: vs, .io xs :: fs, i :: is, h => by
    obtain ⟨⟨h1, b, h2⟩, _, h3⟩ := h
    obtain ⟨v', z1, a, ws, rfl, e1, e2, _⟩ := S.slot i _ h2
    rw [h1] at z1
    cases z1
    exact ⟨⟨a, ws, rfl, e1, e2⟩, PArgs.rargs S h3⟩
  | [], [], _ :: _, h => h.elim
  | [], .val _ :: _, _, h => h.elim
  | [], .io _ :: _, [], h => h.elim
  | [], .io _ :: _, _ :: _, h => h.elim
  | _ :: _, [], [], h => h.elim
  | _ :: _, [], _ :: _, h => h.elim
  | _ :: _, .io _ :: _, [], h => h.elim
/-- a lent place is a slot's -/
theorem PArgs.at {s : AS} {H : Hp} (S : Sim C G s σ H) {a : Addr} : ∀ {vs : List V} {fs : List FArg} {is : List Nat}, PArgs C s σ H vs fs is → a ∈ ioA vs fs → ∃ i b xs, i ∈ is ∧ σ[i]? = some (some (.ref a)) ∧ sl s i = some (.own b xs)
  | [], [], [], _, m => by simp [ioA] at m
  | v :: vs, .val d :: fs, is, h, m => PArgs.at S h.2 (by cases v <;> exact m)
  | v :: vs, .io xs :: fs, i :: is, h, m => by
    obtain ⟨⟨h1, b, h2⟩, _, h3⟩ := h
    obtain ⟨v', z1, c, ws, rfl, e1, e2, _⟩ := S.slot i _ h2
    rw [h1] at z1
    cases z1
    have m : a ∈ c :: ioA vs fs := m
    rcases List.mem_cons.mp m with rfl | m
    · exact ⟨i, b, xs, List.mem_cons_self .., h1, h2⟩
    · obtain ⟨j, b', xs', m1, m2, m3⟩ := PArgs.at S h3 m
      exact ⟨j, b', xs', List.mem_cons_of_mem _ m1, m2, m3⟩
  | [], [], _ :: _, h, _ => h.elim
  | [], .val _ :: _, _, h, _ => h.elim
  | [], .io _ :: _, [], h, _ => h.elim
  | [], .io _ :: _, _ :: _, h, _ => h.elim
  | _ :: _, [], [], h, _ => h.elim
  | _ :: _, [], _ :: _, h, _ => h.elim
  | _ :: _, .io _ :: _, [], h, _ => h.elim
theorem PArgs.nodup {s : AS} {H : Hp} (S : Sim C G s σ H) : ∀ {vs : List V} {fs : List FArg} {is : List Nat}, PArgs C s σ H vs fs is → (ioA vs fs).Nodup
  | [], [], [], _ => List.nodup_nil
  | v :: vs, .val d :: fs, is, h => by
    have : (ioA vs fs).Nodup := PArgs.nodup S h.2
    cases v <;> exact this
  | v :: vs, .io xs :: fs, i :: is, h => by
    obtain ⟨⟨h1, b, h2⟩, hi, h3⟩ := h
    obtain ⟨v', z1, c, ws, rfl, e1, e2, _⟩ := S.slot i _ h2
    rw [h1] at z1
    cases z1
    refine List.nodup_cons.mpr ⟨fun m => ?_, PArgs.nodup S h3⟩
    obtain ⟨j, b', xs', m1, m2, m3⟩ := PArgs.at S h3 m
    exact hi (S.dist i j _ _ _ _ h2 m3 (by rw [h1, m2]) ▸ m1)
  | [], [], _ :: _, h => h.elim
  | [], .val _ :: _, _, h => h.elim
  | [], .io _ :: _, [], h => h.elim
  | [], .io _ :: _, _ :: _, h => h.elim
  | _ :: _, [], [], h => h.elim
  | _ :: _, [], _ :: _, h => h.elim
  | _ :: _, .io _ :: _, [], h => h.elim
/-! the lists come back -/
theorem setOwn_sl {s : AS} {i j : Nat} {xs : List PyData} {sv : SV} (h : sl (setOwn i xs s) j = some sv) : (j = i ∧ ∃ b ys, sl s i = some (.own b ys) ∧ sv = .own b xs) ∨ ((j ≠ i ∨ ∀ b ys, sl s i ≠ some (.own b ys)) ∧ sl s j = some sv) := by
  unfold setOwn at h
  split at h
  · rename_i b ys hs
    rcases sl_set h with ⟨rfl, q, _⟩ | ⟨hne, q⟩
    · cases q
      exact .inl ⟨rfl, b, ys, hs, rfl⟩
    · exact .inr ⟨.inl hne, q⟩
  · rename_i hs
    exact .inr ⟨.inr fun b ys z => hs b ys z, h⟩
theorem setOwn_len {s : AS} {i : Nat} {xs : List PyData} : (setOwn i xs s).length = s.length := by
  unfold setOwn
  split
  · rw [List.length_set]
  · rfl
theorem setOwn_own {s : AS} {i j : Nat} {xs : List PyData} : (∃ b ys, sl (setOwn i xs s) j = some (.own b ys)) → ∃ b ys, sl s j = some (.own b ys) := fun ⟨b, ys, h⟩ => by
  rcases setOwn_sl h with ⟨rfl, b', ys', h1, _⟩ | ⟨_, h1⟩
  · exact ⟨b', ys', h1⟩
  · exact ⟨b, ys, h1⟩
theorem putIos_len : ∀ {is : List Nat} {ios : List (List PyData)} {s : AS}, (putIos is ios s).length = s.length
  | [], _, _ => by unfold putIos; rfl
  | _ :: _, [], _ => by unfold putIos; rfl
  | i :: is, x :: xs, s => by
    show (putIos is xs (setOwn i x s)).length = s.length
    rw [putIos_len, setOwn_len]
theorem putIos_own : ∀ {is : List Nat} {ios : List (List PyData)} {s : AS} {j : Nat}, (∃ b ys, sl (putIos is ios s) j = some (.own b ys)) → ∃ b ys, sl s j = some (.own b ys)
  | [], _, _, _, h => by unfold putIos at h; exact h
  | _ :: _, [], _, _, h => by unfold putIos at h; exact h
  | i :: is, x :: xs, s, j, h => setOwn_own (putIos_own (is := is) (ios := xs) (s := setOwn i x s) h)
/-- a slot behind the call: as it was, or what came back -/
theorem putIos_sl {H : Hp} : ∀ {is : List Nat} {ios : List (List PyData)} {as : List Addr} {s : AS} {j : Nat} {sv : SV}, is.Nodup → (F2 (fun i a => σ[i]? = some (some (V.ref a)) ∧ ∃ b xs, sl s i = some (.own b xs)) is as) → RIos C H as ios → sl (putIos is ios s) j = some sv →
    (j ∉ is ∧ sl s j = some sv) ∨ ∃ b a ys zs ws, sl s j = some (.own b ys) ∧ sv = .own b zs ∧ σ[j]? = some (some (.ref a)) ∧ H a = some (.lst ws) ∧ Rfs C.K H ws zs
  | [], ios, as, s, j, sv, _, f, r, h => by
    unfold putIos at h
    exact .inl ⟨by simp, h⟩
  | i :: is, [], as, s, j, sv, _, f, r, h => by
    cases f with
    | cons f1 f2 => exact r.elim
  | i :: is, x :: xs, as, s, j, sv, nd, f, r, h => by
    cases f with
    | @cons _ a _ as' f1 f2 =>
      obtain ⟨⟨ws, r1, r2⟩, r3⟩ := r
      obtain ⟨f1, b0, x0, f3⟩ := f1
      obtain ⟨n1, n2⟩ := List.nodup_cons.mp nd
      have f4 : F2 (fun k a => σ[k]? = some (some (V.ref a)) ∧ ∃ b xs, sl (setOwn i x s) k = some (.own b xs)) is as' := by
        have gen : ∀ {l : List Nat} {l' : List Addr}, i ∉ l → F2 (fun i a => σ[i]? = some (some (V.ref a)) ∧ ∃ b xs, sl s i = some (.own b xs)) l l' → F2 (fun k a => σ[k]? = some (some (V.ref a)) ∧ ∃ b xs, sl (setOwn i x s) k = some (.own b xs)) l l' := by
          intro l l' hn hf
          induction hf with
          | nil => exact .nil
          | @cons k a' l l' h1 h2 ih =>
            have hk : i ≠ k := fun z => hn (z ▸ List.mem_cons_self ..)
            refine .cons ⟨h1.1, ?_⟩ (ih fun z => hn (List.mem_cons_of_mem _ z))
            obtain ⟨b, ys, e⟩ := h1.2
            refine ⟨b, ys, ?_⟩
            unfold setOwn
            split
            · rw [sl_set_ne hk]; exact e
            · exact e
        exact gen n1 f2
      rcases putIos_sl (s := setOwn i x s) n2 f4 r3 h with ⟨h1, h2⟩ | ⟨b, a', ys, zs, ws', h1, h2, h3, h4, h5⟩
      · rcases setOwn_sl h2 with ⟨rfl, b, ys, h3, rfl⟩ | ⟨h3, h4⟩
        · exact .inr ⟨b, a, ys, x, ws, h3, rfl, f1, r1, r2⟩
        · rcases h3 with h3 | h3
          · exact .inl ⟨fun m => (List.mem_cons.mp m).elim h3 h1, h4⟩
          · exact absurd f3 (h3 _ _)
      · have e : ∃ b2 y2, sl s j = some (.own b2 y2) ∧ b2 = b := by
          rcases setOwn_sl h1 with ⟨rfl, b2, y2, h6, h7⟩ | ⟨_, h6⟩
          · cases h7
            exact ⟨b, y2, h6, rfl⟩
          · exact ⟨b, ys, h6, rfl⟩
        obtain ⟨_, y2, h6, rfl⟩ := e
        exact .inr ⟨_, a', y2, zs, ws', h6, h2, h3, h4, h5⟩
theorem PArgs.pairs {s : AS} {H : Hp} (S : Sim C G s σ H) : ∀ {vs : List V} {fs : List FArg} {is : List Nat}, PArgs C s σ H vs fs is → is.Nodup ∧ F2 (fun i a => σ[i]? = some (some (V.ref a)) ∧ ∃ b xs, sl s i = some (.own b xs)) is (ioA vs fs)
  | [], [], [], _ => ⟨List.nodup_nil, .nil⟩
  | v :: vs, .val d :: fs, is, h => by
    have := PArgs.pairs S h.2
    cases v <;> exact this
  | v :: vs, .io xs :: fs, i :: is, h => by
    obtain ⟨⟨h1, b, h2⟩, hi, h3⟩ := h
    obtain ⟨v', z1, c, ws, rfl, e1, e2, _⟩ := S.slot i _ h2
    rw [h1] at z1
    cases z1
    obtain ⟨p1, p2⟩ := PArgs.pairs S h3
    exact ⟨List.nodup_cons.mpr ⟨hi, p1⟩, .cons ⟨h1, b, xs, h2⟩ p2⟩
  | [], [], _ :: _, h => h.elim
  | [], .val _ :: _, _, h => h.elim
  | [], .io _ :: _, [], h => h.elim
  | [], .io _ :: _, _ :: _, h => h.elim
  | _ :: _, [], [], h => h.elim
  | _ :: _, [], _ :: _, h => h.elim
  | _ :: _, .io _ :: _, [], h => h.elim
theorem Sim.after {s : AS} {H H' : Hp} {vs : List V} {fs : List FArg} {is : List Nat} {ios : List (List PyData)} (S : Sim C G s σ H) (pa : PArgs C s σ H vs fs is) (kp : Kp H H' (ioA vs fs)) (tb : LamX.Tabs C.T H') (ri : RIos C H' (ioA vs fs) ios) :
    Ext H H' ∧ Sim C G (putIos is ios s) σ H' := by
  obtain ⟨nd, pr⟩ := pa.pairs S
  have lst_at : ∀ a, a ∈ ioA vs fs → ∃ ws, H a = some (.lst ws) := fun a m => by
    obtain ⟨i, b, xs, _, m2, m3⟩ := pa.at S m
    obtain ⟨v', z1, c, ws, rfl, e1, _⟩ := S.slot i _ m3
    rw [m2] at z1
    cases z1
    exact ⟨ws, e1⟩
  have e : Ext H H' := fun b o h n1 n2 => kp.1 b o h (fun m => by
    obtain ⟨ws, z⟩ := lst_at b m
    rw [h] at z
    exact n1 ws (Option.some.inj z)) n2
  have ours : ∀ a, a ∈ ioA vs fs → G.Hin a = none ∨ a ∈ G.io.map (·.2) := fun a m => by
    obtain ⟨i, b, xs, _, m2, m3⟩ := pa.at S m
    obtain ⟨v', z1, c, ws, rfl, _, _, e3⟩ := S.slot i _ m3
    rw [m2] at z1
    cases z1
    exact own_ours e3
  refine ⟨e, ⟨putIos_len.trans S.len, fun j sv q => ?_, fun i j b b' xs ys q1 q2 q3 => ?_, fun a o h m n => ?_, fun a o h => ?_, tb⟩⟩
  · rcases putIos_sl nd pr ri q with ⟨h1, h2⟩ | ⟨b, a, ys, zs, ws, h1, rfl, h3, h4, h5⟩
    · obtain ⟨v, z1, z2⟩ := S.slot j sv h2
      refine ⟨v, z1, ?_⟩
      cases sv with
      | val d => exact Rf.ext e d v z2
      | exc c w =>
        obtain ⟨a, d, oe, vw, rfl, h3, h4, h5, h6, h7⟩ := z2
        exact ⟨a, d, oe, vw, rfl, h3, h4, h5, e _ _ h6 (fun _ z => by cases z) (fun _ z => by cases z), h7.ext e⟩
      | own b xs =>
        obtain ⟨a, ws, rfl, h3, h4, h5⟩ := z2
        refine ⟨a, ws, rfl, kp.1 a _ h3 (fun m => ?_) (fun ps z => by cases z), h4.ext e, h5⟩
        obtain ⟨i, b', xs', m1, m2, m3⟩ := pa.at S m
        exact h1 (S.dist j i _ _ _ _ h2 m3 (by rw [z1, m2]) ▸ m1)
    · obtain ⟨v, z1, a', ws', rfl, _, _, z2⟩ := S.slot j _ h1
      rw [h3] at z1
      cases z1
      exact ⟨_, h3, a, ws, rfl, h4, h5, z2⟩
  · obtain ⟨_, _, o1⟩ := putIos_own ⟨_, _, q1⟩
    obtain ⟨_, _, o2⟩ := putIos_own ⟨_, _, q2⟩
    exact S.dist i j _ _ _ _ o1 o2 q3
  · refine kp.1 a o (S.keep a o h m n) (fun z => ?_) n
    rcases ours a z with y | y
    · rw [y] at h; cases h
    · exact m y
  · obtain ⟨o', z, n⟩ := S.there a o h
    obtain ⟨o2, z2, n2⟩ := kp.2 a o' z
    exact ⟨o2, z2, fun m => n2 (n m)⟩
end
section
variable {X : Cx} {C : Cn} {G : Gd} {W : Wish} {Φ : Calls} {e : Expr} {es : List Expr} {pos p p2 : Pos}
theorem callA_run {f np : Nat} {σ : St} {H : Hp} {s : AS} {vs : List V} {avs : List AV} {Q : VK} {E : XK} (hE : E = WE W σ) (S : Sim C G s σ H) (r : RNs C σ H vs avs) (hn : ∀ fs, Φ.go f fs ≠ .bad → fs.length = np) (q : Run C G W σ H (callA Φ f avs s) fun a s' H' => ∀ v, RA C G s' σ H' v a → Q v H') :
    Lk (fun H' => spF C Φ f np vs H' Q E) H := by
  unfold callA at q
  cases hp : prep avs (Φ.by_ f) s with
  | none => rw [hp] at q; exact False.elim q
  | some t =>
    obtain ⟨fs, is, s1⟩ := t
    rw [hp] at q
    dsimp only at q
    refine prep_run S r hp fun H1 e1 S1 pa => ?_
    have hl : vs.length = fs.length := by
      have gen : ∀ {vs : List V} {fs : List FArg}, RArgs C H1 vs fs → vs.length = fs.length := by
        intro vs
        induction vs with
        | nil => intro fs h; cases fs with
          | nil => rfl
          | cons x _ => exact (show False from by cases x <;> exact h).elim
        | cons v vs ih => intro fs h; cases fs with
          | nil => exact h.elim
          | cons x fs => cases x with
            | val d => exact congrArg (· + 1) (ih h.2)
            | io xs => exact congrArg (· + 1) (ih h.2)
      exact gen (pa.rargs S1)
    refine ⟨?_, fs, pa.rargs S1, pa.nodup S1, S1.tabs, ?_⟩
    · rw [hl]
      exact hn fs fun z => by rw [z] at q; exact q
    · cases hg : Φ.go f fs with
      | bad => rw [hg] at q; exact q
      | ret rv ios =>
        rw [hg] at q
        intro v H' kp tb ri rr
        obtain ⟨e2, S2⟩ := S1.after pa kp tb ri
        refine q H' (e1.trans e2) S2 v ?_
        cases rv with
        | val d => exact rr
        | new xs =>
          obtain ⟨a, ws, rfl, h1, h2, h3⟩ := rr
          refine ⟨a, ws, rfl, h2, h3, S1.fresh h1, fun j b ys z1 z2 => ?_⟩
          obtain ⟨b', ys', z3⟩ := putIos_own ⟨b, ys, z1⟩
          obtain ⟨v', z4, a', ws', rfl, z5, _⟩ := S1.slot j _ z3
          rw [z2] at z4
          cases z4
          rw [h1] at z5
          cases z5
      | err c w ios =>
        rw [hg] at q
        intro d vw H' kp tb ri hd hw
        obtain ⟨e2, S2⟩ := S1.after pa kp tb ri
        rw [hE]
        exact q d vw H' (e1.trans e2) S2 hd hw
theorem k_call {k f np : Nat} {fa : Addr} {fd : FuncData} {ps : List Str} {x : Str} {l : E} (F : FnOk X.prog X.w X.K X.mg X.base (L2N.CX X.prog X.w) k fa fd ps (spF C Φ f np)) (hr : Room k X.A) (hg : Gl X x) (hm : X.mg x = some (.ref fa)) (hk : PySem.W.keepIn X.K (.ref fa) = true) (hb : Binds X.K fd ps [])
    (tk : L2N.Takes X W) (hn : ∀ fs, Φ.go f fs ≠ .bad → fs.length = np) (ha : PA X (e :: es) (tNs C G W (evs Φ l))) (hs : (e :: es).all nst = true) (hdb : (x == ("__debug__" : Str)) = false) : PE X (.Call (.Name x p) (e :: es) [] pos) (tA C G W (ev Φ (.call f l))) := by
  have hs' := hs
  simp only [List.all_cons, Bool.and_eq_true] at hs'
  refine pe_imp (pe_callSD F hr hg hm hk hb (dvs := []) .nil (fun σ => L2N.passAt tk σ) (pa_lk ha) hdb (nst_each hs'.1) (nst_back hs'.2)) fun σ H Q ⟨s, S, q⟩ => ?_
  unfold ev at q
  refine ⟨s, S, (Run.bnd q).imp fun as s1 H1 e1 S1 q1 vs r => ?_⟩
  have z := callA_run (np := np) rfl S1 r hn q1
  simp only [List.append_nil]
  exact z

/-! ### caught errors -/
structure XcOk (K : PySem.W.Frag) (c : Addr) : Prop where
  xf : XfC K c
  wh : PySem.W.findIn K (.ref c) "what" = some none
  cl : (PySem.W.clsIn K c).isSome = true
  ca : PySem.W.findIn K (.ref c) "__class__" = some (some (.builtin "object.__class__"))
  sp : PySem.W.specialIn K (.builtin "object.__class__") "__get__" = some (some (.builtin "getset_descriptor.__get__"))
  tk : PySem.W.takesIn K (.builtin "object.__class__") = some true
  mr : PySem.W.mroIn K c (.type "object") = some true
theorem k_what {i : Nat} {x : Str} {pos' : Pos} (hK : X.K = C.K) (hc : ∀ c, XcOk C.K (C.cad c)) (hp : ∀ q ∈ G.pn, q ∈ X.pn) (hN : X.N[i]? = some x) (hv : Vis X.env.scope x) (hd : (x == ("__debug__" : Str)) = false) (hcd : (x == ("__classdict__" : Str)) = false) : PE X (.Attribute (.Name x pos') "what" pos) (tA C G W (ev Φ (.what i))) := by
  refine ⟨fun pins s0 σ H Q I ⟨s, S, q⟩ => ?_⟩
  unfold ev at q
  cases h : sl s i with
  | none => rw [h] at q; exact False.elim q
  | some sv =>
    rw [h] at q
    cases sv with
    | val d => exact False.elim q
    | own b xs => exact False.elim q
    | exc c w =>
      obtain ⟨v, z1, a, d, oe, vw, rfl, h1, h2, h3, h4, h5⟩ := S.slot i _ h
      refine attr_of (e := .Name x pos') rfl (thn ((pe_var (X := X) hN hv hd hcd).run pins s0 σ H (fun v H' => v = .ref a ∧ H' = H) I ⟨_, z1, rfl, rfl⟩) fun u s1 hh => ?_)
      obtain ⟨_, H, I1, rx, rfl, rfl⟩ := hh
      obtain rfl : u = Value.ref a := rx
      obtain ⟨ha, _⟩ := I1.pin (a, oe) (List.mem_append_left _ (hp _ h1))
      obtain ⟨vs, hd⟩ := h3
      obtain ⟨mA, hns, hr⟩ := (show ObjOk X.prog X.w H s1.heap d (.xd [(("what" : Str), vw)]) from I1.hok d _ h4)
      obtain ⟨od, ho, hl⟩ := lookIn_ns hns
      obtain ⟨u, hu, ru⟩ := RelO.some_of (v := vw) (o := mA "what") (hr "what")
      have T := hc c
      rw [← hK] at T
      have J : PySem.W.InstAt s1.heap a oe (C.cad c) (some od) := ⟨ha, h2.1, by unfold PySem.W.notCls; rw [hd] <;> rfl, by rw [h2.2]; exact ho⟩
      exact HandSPX.exc_get I1.kIn J T.xf.ga T.xf.gg T.xf.exC (PySem.W.findObj_own T.xf.hdC T.wh rfl (by rw [hl, hu])) (handed_of ru) ⟨vw, H, I1.tok _, ru, Run.now q S _ h5⟩
theorem k_excIs {i c : Nat} {x y : Str} {pos' pos2 : Pos} (hK : X.K = C.K) (hc : ∀ c, XcOk C.K (C.cad c)) (hs : ∀ k c, PySem.W.kitOne C.K (.ref (C.cad k)) (.ref (C.cad c)) = some (Φ.sub k c)) (hp : ∀ q ∈ G.pn, q ∈ X.pn) (hN : X.N[i]? = some x) (hv : Vis X.env.scope x) (hd : (x == ("__debug__" : Str)) = false) (hcd : (x == ("__classdict__" : Str)) = false)
    (hg : Gl X "isinstance") (hm : X.mg "isinstance" = none) (hg2 : Gl X y) (hm2 : X.mg y = some (.ref (C.cad c))) (hdy : (y == ("__debug__" : Str)) = false) : PE X (.Call (.Name "isinstance" p) [.Name x pos', .Name y pos2] [] pos) (tA C G W (ev Φ (.excIs i c))) := by
  refine ⟨fun pins s0 σ H Q I ⟨s, S, q⟩ => ?_⟩
  unfold ev at q
  cases h : sl s i with
  | none => rw [h] at q; exact False.elim q
  | some sv =>
    rw [h] at q
    cases sv with
    | val d => exact False.elim q
    | own b xs => exact False.elim q
    | exc k w =>
      obtain ⟨v, z1, a, d, oe, vw, rfl, h1, h2, h3, h4, h5⟩ := S.slot i _ h
      have r : CallR X (.builtin "isinstance") (fun xs H1 Q' => xs = [.ref a, .ref (C.cad c)] ∧ H1 = H ∧ Q' (.bl (Φ.sub k c)) H) := by
        intro pins s1 σ1 H1 xs us Q' I1 r ⟨e1, e2, q'⟩
        subst e1 e2
        obtain ⟨u1, u2, rfl, r1, r2⟩ := vals2 r
        obtain rfl : u1 = Value.ref a := r1
        obtain rfl : u2 = Value.ref (C.cad c) := r2
        obtain ⟨ha, _⟩ := I1.pin (a, oe) (List.mem_append_left _ (hp _ h1))
        obtain ⟨vs, hd⟩ := h3
        obtain ⟨mA, hns, hr⟩ := (show ObjOk X.prog X.w H1 s1.heap d (.xd [(("what" : Str), vw)]) from I1.hok d _ h4)
        obtain ⟨od, ho, hl⟩ := lookIn_ns hns
        have T := hc k
        have hs' := hs k c
        rw [← hK] at T hs'
        have J : PySem.W.InstAt s1.heap a oe (C.cad k) (some od) := ⟨ha, h2.1, by unfold PySem.W.notCls; rw [hd] <;> rfl, by rw [h2.2]; exact ho⟩
        exact PySem.W.kia_one (PySem.W.kitx_exc T.cl T.xf.ga T.xf.gg T.xf.exC T.ca T.sp T.tk T.mr) I1.kIn J hs' (fun z => nomatch z) fun tk => ⟨.bl _, H1, I1.tok tk, rfl, q'⟩
      refine (pe_callB r hg hm (by decide +kernel) (pa_cons (pe_var hN hv hd hcd) (pa_cons (pe_glob (v := .ref (C.cad c)) hg2 hm2 rfl hdy) pa_nil rfl) rfl) (by decide) (by decide) rfl rfl).run pins s0 σ H Q I ?_
      exact ⟨_, z1, rfl, rfl, Run.now q S _ (.bl _)⟩
end
end AM
set_option Elab.async false
set_option linter.all false
set_option maxRecDepth 100000
set_option maxHeartbeats 1000000
/-! AM11: a text of the row is a term of ours (by a test that runs), and the soundness of terms. -/
namespace AM
open PySem PySem.Spec PyProof.Rows L2

/-- of the text around: its scope; names whose cells are its own; slots; within a block; calm; how much room above the calls; a lambda's code object, table, maker -/
structure TX where
  sc : Scope
  fn : Str → Bool
  N : List Str
  inb : Bool
  calm : Bool
  up : Nat
  lam : Bool
  hot : Bool
/-- the module's names -/
structure Tb where
  fnm : List Str
  cnm : List Str
  hrd : List Str
  bl : List Str
  nums : List (Str × Int)
def dbg (x : Str) : Bool := x == ("__debug__" : Str)
def visB (T : TX) (i : Nat) (x : Str) : Bool := decide (T.N[i]? = some x) && ((match T.sc.names.lookup x with
  | some .local => true
  | some .cell => true
  | some .free => true
  | _ => false) && (!dbg x && !(x == ("__classdict__" : Str))))
def glB (T : TX) (x : Str) : Bool := decide (T.sc.names.lookup x = some .globalImplicit)
def frB (b : Tb) (T : TX) (x : Str) : Bool := glB T x && decide (x ∈ b.bl)
def locB (T : TX) (i : Nat) (x : Str) : Bool := decide (T.N[i]? = some x) && (match T.sc.names.lookup x with
  | some .local => true
  | some .cell => T.fn x
  | _ => false)
mutual
def mtG (h : Bool) (T : TX) : AM.G → Expr → Bool
  | .nm i, .Name x _ => locB T i x
  | .tp gs, .Tuple es _ _ => (T.calm || h) && (es.all nst && (decide (es.length = glen gs) && mtGs h T gs es))
  | _, _ => false
def mtGs (h : Bool) (T : TX) : AM.G → List Expr → Bool
  | .nil, [] => true
  | .cons g gs, e :: es => nst e && (mtG h T g e && mtGs h T gs es)
  | _, _ => false
end
def nset : Expr → Bool
  | .Set .. => false
  | _ => true
/-- the tests of a term: as a value, a test, a list, an and/or (as a value, as a test), what is walked, a slice's part, a block's tests, the empty list -/
structure MT where
  e : TX → Expr → Bool
  t : TX → Expr → Bool
  l : TX → List Expr → Bool
  b : TX → List Expr → Bool
  bt : TX → List Expr → Bool
  i : TX → Expr → Expr → Bool
  p : TX → Option Expr → Bool
  ts : TX → List Expr → Bool
  z : Bool
  sq : Bool
def noL : TX → List Expr → Bool := fun _ _ => false
def MT.of (f : TX → Expr → Bool) : MT where
  e := f
  t := fun T x => plT x && f T x
  l := noL
  b := noL
  bt := noL
  i := fun T _ x => nset x && f T x
  p := fun T o => match o with
    | some x => f T x
    | none => false
  ts := noL
  z := false
  sq := true
def MT.ofT (f t : TX → Expr → Bool) : MT := { MT.of f with t := t }
def MT.no : MT := { MT.of fun _ _ => false with sq := false }
def ownOf (N : List Str) (own : List Nat) : List (Str × Nat) := own.map fun i => ((N[i]?).getD default, i)
def blkT (T : TX) (scope : Scope) : TX := ⟨relS scope T.sc, fun x => scope.names.lookup x == some .cell, T.N, true, T.calm, T.up, false, false⟩
def lamT (T : TX) (scope : Scope) : TX := ⟨scope, fun _ => false, T.N, true, true, 0, false, false⟩
def isTup : Expr → Bool
  | .Tuple .. => true
  | _ => false
def mthN : Mth → Str
  | .append => "append"
  | .extend => "extend"
  | .pop => "pop"
  | .join => "join"
def one1 : List Expr → (Expr → Bool) → Bool
  | [y], f => f y
  | _, _ => false
def mthA (m : Mth) (ys : List Expr) (z : Bool) (l : List Expr → Bool) : Bool := match m with
  | .pop => ys.isEmpty && z
  | .append => one1 ys fun y => nst y && l [y]
  | .extend => one1 ys fun y => nst y && l [y]
  | .join => one1 ys fun y => nst y && l [y]
theorem one1_of {ys : List Expr} {f : Expr → Bool} (h : one1 ys f = true) : ∃ y, ys = [y] ∧ f y = true := by
  match ys, h with
  | [y], h => exact ⟨y, rfl, h⟩
  | [], h => cases h
  | _ :: _ :: _, h => cases h
def mt (b : Tb) : E → MT
  | .var i => MT.of fun T x => match x with
    | .Name n _ => visB T i n
    | _ => false
  | .lit d => MT.of fun _ x => match x, d with
    | .Constant (.int i) _ _, .int j => decide (i = j)
    | .Constant (.bool i) _ _, .bool j => decide (i = j)
    | .Constant (.str i) _ _, .str j => decide (i = j)
    | .Constant .none _ _, .none => true
    | _, _ => false
  | .glb n d => MT.of fun T x => match x, d with
    | .Name m _, .int i => decide (m = n) && (glB T n && (!dbg n && decide ((n, i) ∈ b.nums)))
    | _, _ => false
  | .neg a => MT.of fun T x => match x with
    | .UnaryOp .USub y _ => (mt b a).e T y
    | _ => false
  | .nt a => MT.ofT (fun T x => match x with
    | .UnaryOp .Not y _ => (mt b a).e T y
    | _ => false) fun T x => match x with
    | .UnaryOp .Not y _ => (mt b a).t T y
    | _ => false
  | .an l => MT.ofT (fun T x => match x with
    | .BoolOp .And ys _ => (mt b l).b T ys
    | _ => false) fun T x => match x with
    | .BoolOp .And ys _ => (mt b l).bt T ys
    | _ => false
  | .orr l => MT.ofT (fun T x => match x with
    | .BoolOp .Or ys _ => (mt b l).b T ys
    | _ => false) fun T x => match x with
    | .BoolOp .Or ys _ => (mt b l).bt T ys
    | _ => false
  | .ite t a c => MT.ofT (fun T x => match x with
    | .IfExp p q r _ => (mt b t).t T p && ((mt b a).e T q && (mt b c).e T r)
    | _ => false) fun T x => match x with
    | .IfExp p q r _ => (mt b t).t T p && ((mt b a).t T q && (mt b c).t T r)
    | _ => false
  | .bin o a c => MT.of fun T x => match x with
    | .BinOp p op q _ => decide (op = opr o) && ((mt b a).e T p && (mt b c).e T q)
    | _ => false
  | .cmp o a c =>
    let f : TX → Expr → Bool := fun T x => match x with
      | .Compare p [op] [q] _ => decide (op = copr o) && ((mt b a).e T p && (mt b c).e T q)
      | _ => false
    MT.ofT f f
  | .chn o o' a c d =>
    let f : TX → Expr → Bool := fun T x => match x with
      | .Compare p [op, op'] [q, r] _ => decide (op = copr o) && (decide (op' = copr o') && ((mt b a).e T p && ((mt b c).e T q && (mt b d).e T r)))
      | _ => false
    MT.ofT f f
  | .isN k a =>
    let f : TX → Expr → Bool := fun T x => match x with
      | .Compare p [op] [.Constant .none _ _] _ => decide (op = isOp k) && (mt b a).e T p
      | _ => false
    MT.ofT f f
  | .nil => { MT.no with l := fun _ xs => xs.isEmpty, ts := fun _ xs => xs.isEmpty, z := true }
  | .cons a r => { MT.no with
      l := fun T xs => match xs with
        | y :: ys => nst y && ((mt b a).e T y && (mt b r).l T ys)
        | [] => false
      b := fun T xs => match xs with
        | [y] => (mt b r).z && (mt b a).e T y
        | y :: ys => (mt b a).e T y && (mt b r).b T ys
        | [] => false
      bt := fun T xs => match xs with
        | [y] => (mt b r).z && (mt b a).t T y
        | y :: ys => (mt b a).t T y && (mt b r).bt T ys
        | [] => false
      ts := fun T xs => match xs with
        | [y] => (mt b r).z && (mt b a).t T y
        | _ => false }
  | .tup l => MT.of fun T x => match x with
    | .Tuple xs _ _ => (mt b l).l T xs
    | _ => false
  | .lst l => MT.of fun T x => match x with
    | .List xs _ => (mt b l).l T xs
    | _ => false
  | .ix a i => MT.of fun T x => match x with
    | .Subscript p q _ => plIx q && ((mt b a).e T p && (mt b i).e T q)
    | _ => false
  | .slc a lo hi => MT.of fun T x => match x with
    | .Subscript p (.Slice l h none _) _ => (mt b a).e T p && ((mt b lo).p T l && (mt b hi).p T h)
    | _ => false
  | .rev a => MT.of fun T x => match x with
    | .Subscript p (.Slice none none (some (.UnaryOp .USub (.Constant (.int j) _ _) _)) _) _ => decide (j = 1) && (mt b a).e T p
    | _ => false
  | .nop => { MT.no with p := fun _ o => o.isNone }
  | .call f l => MT.of fun T x => match x with
    | .Call (.Name n _) (y :: ys) [] _ => decide (b.fnm[f]? = some n) && (glB T n && (T.calm && (!dbg n && ((y :: ys).all nst && (mt b l).l T (y :: ys)))))
    | _ => false
  | .blt bl l => MT.of fun T x => match x with
    | .Call (.Name n _) (y :: ys) [] _ => decide (n = bltN bl) && (frB b T n && ((!bltCalm bl || T.calm) && ((y :: ys).all nst && (mt b l).l T (y :: ys))))
    | _ => false
  | .inst a t => MT.of fun T x => match x with
    | .Call (.Name n _) [y, .Name m _] [] _ => decide (n = "isinstance") && (frB b T n && (decide (m = tyS t) && (frB b T m && (nst y && (mt b a).e T y))))
    | _ => false
  | .excIs i c => MT.of fun T x => match x with
    | .Call (.Name n _) [.Name y _, .Name m _] [] _ => decide (n = "isinstance") && (frB b T n && (!T.inb && (visB T i y && (decide (b.cnm[c]? = some m) && (glB T m && !dbg m)))))
    | _ => false
  | .what i => MT.of fun T x => match x with
    | .Attribute (.Name y _) w _ => decide (w = "what") && (!T.inb && visB T i y)
    | _ => false
  | .meth m a l => MT.of fun T x => match x with
    | .Call (.Attribute o name apos) ys [] cpos => decide (name = mthN m) && ((apos.endLine == cpos.line) && (nsup o && ((mt b a).e T o && mthA m ys (mt b l).z ((mt b l).l T))))
    | _ => false
  | .comp el g it ts own => MT.of fun T x => match x with
    | .ListComp elt [⟨tg, iter, ifs, a⟩] scope _ => decide (a = 0) && (blkC T.N T.sc scope (ownOf T.N own) && ((gvs g).all (fun j => decide (j ∈ own)) && ((match T.hot with
      | true => (mt b it).sq && (nset iter && (mt b it).e T iter)
      | false => T.calm && (mt b it).i T tg iter) && (mtG T.hot (blkT T scope) g tg && ((mt b ts).ts (blkT T scope) ifs && (mt b el).e (blkT T scope) elt)))))
    | _ => false
  | .told f c => MT.of fun T x => match x with
    | .Call (.Name n _) [.Lambda ⟨[], [], none, [], [], none, []⟩ body scope _] [] _ => decide (b.hrd[f]? = some n) && (glB T n && (T.calm && (decide (T.up = 2) && (!dbg n && (T.lam && (LamX.lamSB T.sc scope && (mt b c).e (lamT T scope) body))))))
    | _ => false
  | .range1 a => { MT.no with i := fun T _ x => match x with
    | .Call (.Name n _) [y] [] _ => decide (n = "range") && (frB b T n && (nst y && (mt b a).e T y))
    | _ => false }
  | .range2 a c => { MT.no with i := fun T _ x => match x with
    | .Call (.Name n _) [y, z] [] _ => decide (n = "range") && (frB b T n && (nst y && (nst z && ((mt b a).e T y && (mt b c).e T z))))
    | _ => false }
  | .enum a => { MT.no with i := fun T tg x => isTup tg && (match x with
    | .Call (.Name n _) [y] [] _ => decide (n = "enumerate") && (frB b T n && (nst y && (mt b a).e T y))
    | _ => false) }
  | .zip a c => { MT.no with i := fun T tg x => isTup tg && (match x with
    | .Call (.Name n _) [y, z] [] _ => decide (n = "zip") && (frB b T n && (nst y && (nst z && ((mt b a).e T y && (mt b c).e T z))))
    | _ => false) }

/-! ### the world -/
structure Bd where
  P : Program
  w : World
  mg : Str → Option Value
  base : Heap
  C : Cn
  Φ : Calls
  k : Nat
  tb : Tb
  fa : Nat → Addr
  fd : Nat → FuncData
  ps : Nat → List Str
structure XOk (B : Bd) (T : TX) (X : Cx) (G : Gd) (W : Wish) : Prop where
  P : X.prog = B.P
  w : X.w = B.w
  K : X.K = B.C.K
  mg : X.mg = B.mg
  base : X.base = B.base
  N : X.N = T.N
  nd : T.N.Nodup
  sc : X.env.scope = T.sc
  fn : ∀ x, T.fn x = true → X.fn x = true
  calm : T.calm = true → X.calm = true
  room : T.calm = true → Room (B.k + T.up) X.A
  un : X.A.units + 64 < cLine
  tk : L2N.Takes X W
  hot : T.hot = true → L2H.HotC X
  gok : GOk G
  pn : T.inb = false → ∀ p ∈ G.pn, p ∈ X.pn
  h0 : T.lam = true → ∀ a ps, G.Hin a = some (.tbl ps) → ∃ qs, X.H_0 a = some (.tbl qs)
  lam : T.lam = true → ∃ c P : Addr, X.env.code = .ref c ∧ LamX.TabB X.base X.mg c P ∧ (P, X.env.qual ++ "<lambda>") ∈ B.C.T ∧ ∀ p ∈ B.C.T, p.1 = P → p.2 = X.env.qual ++ "<lambda>"
abbrev WL (E : XK) : Wish := fun cls d _ H => E cls d H
theorem takes0N {X : Cx} : L2N.Takes X W0 := fun _ _ x => by
  obtain ⟨_, _, _, _, _, _, _, _, _, _, _, _, _, _, _, _, z⟩ := x
  exact z.elim
/-- the context of a lambda's body -/
abbrev lamN (X : Cx) (A : Around) (outer : List Env) (s : Shared) (H : Hp) (E : XK) (scope : Scope) (f c' : Addr) : Cx :=
  { LamX.lamCx X A outer s H E scope f c' with xe := fun e s' => wpAny (model X.prog X.w) (A.deeper (LamX.lamEnv X scope s.heap.objs.size f c')) (leaving (LamX.lamEnv X scope s.heap.objs.size f c') e) (fun _ s'' => L2N.CX X.prog X.w outer H s E e s'') (fun e' s'' => L2N.CX X.prog X.w outer H s E e' s'') s' }
/-- what a heard lambda gives: the caught error as told -/
def HeardOk (B : Bd) : Prop := ∀ (f : Nat) (x : Str), B.tb.hrd[f]? = some x → ∀ (T : TX) (X : Cx) (G : Gd) (W : Wish) (e : E) (body : Expr) (scope : Scope) (p lpos pos : Pos), XOk B T X G W → T.calm = true → T.up = 2 → T.lam = true → Gl X x → LamX.LamS X.env.scope scope →
  (∀ (A : Around) (outer : List Env) (s : Shared) (H : Hp) (E : XK) (f c' : Addr), Room B.k (A.deeper (LamX.lamEnv X scope s.heap.objs.size f c')) → PE (lamN X A outer s H E scope f c') body (tA B.C G (WL E) (ev B.Φ e))) →
  PE X (.Call (.Name x p) [.Lambda ⟨[], [], none, [], [], none, []⟩ body scope lpos] [] pos) (tA B.C G W (ev B.Φ (.told f e)))
structure BdOk (B : Bd) : Prop where
  fn : ∀ f x, B.tb.fnm[f]? = some x → B.mg x = some (.ref (B.fa f)) ∧ PySem.W.keepIn B.C.K (.ref (B.fa f)) = true ∧ Binds B.C.K (B.fd f) (B.ps f) [] ∧ FnOk B.P B.w B.C.K B.mg B.base (L2N.CX B.P B.w) B.k (B.fa f) (B.fd f) (B.ps f) (spF B.C B.Φ f (B.ps f).length) ∧ ∀ fs, B.Φ.go f fs ≠ .bad → fs.length = (B.ps f).length
  cl : ∀ c x, B.tb.cnm[c]? = some x → B.mg x = some (.ref (B.C.cad c))
  xc : ∀ c, XcOk B.C.K (B.C.cad c)
  sub : ∀ k c, PySem.W.kitOne B.C.K (.ref (B.C.cad k)) (.ref (B.C.cad c)) = some (B.Φ.sub k c)
  bl : ∀ x ∈ B.tb.bl, B.mg x = none
  nums : ∀ p ∈ B.tb.nums, ∃ t, B.mg p.1 = some (.int p.2 t)
  heard : HeardOk B
theorem Room.le {k k' : Nat} {A : Around} (h : Room k' A) (hl : k ≤ k') : Room k A := ⟨h.hd, by have := h.dp; omega, by have := h.un; omega⟩

section
variable {B : Bd} {T : TX} {X : Cx} {G : Gd} {W : Wish}
theorem vis_of {i : Nat} {x : Str} (o : XOk B T X G W) (h : visB T i x = true) : X.N[i]? = some x ∧ Vis X.env.scope x ∧ (x == ("__debug__" : Str)) = false ∧ (x == ("__classdict__" : Str)) = false := by
  unfold visB at h
  simp only [Bool.and_eq_true, decide_eq_true_eq, Bool.not_eq_true'] at h
  obtain ⟨h1, h2, h3, h4⟩ := h
  refine ⟨by rw [o.N]; exact h1, ?_, h3, h4⟩
  unfold Vis
  rw [o.sc]
  split at h2
  · rename_i e; exact .inl e
  · rename_i e; exact .inr (.inl e)
  · rename_i e; exact .inr (.inr e)
  · cases h2
theorem gl_of {x : Str} (o : XOk B T X G W) (h : glB T x = true) : Gl X x := by
  unfold glB at h
  show X.env.scope.names.lookup x = some .globalImplicit
  rw [o.sc]
  exact of_decide_eq_true h
theorem fr_of {x : Str} (o : XOk B T X G W) (ok : BdOk B) (h : frB B.tb T x = true) : Gl X x ∧ X.mg x = none := by
  unfold frB at h
  simp only [Bool.and_eq_true, decide_eq_true_eq] at h
  exact ⟨gl_of o h.1, by rw [o.mg]; exact ok.bl x h.2⟩
theorem loc_of {i : Nat} {x : Str} (o : XOk B T X G W) (h : locB T i x = true) : X.N[i]? = some x ∧ L2.Loc X.env.scope x ∧ (X.fn x = true ∨ X.env.scope.names.lookup x = some .local) := by
  unfold locB at h
  simp only [Bool.and_eq_true, decide_eq_true_eq] at h
  obtain ⟨h1, h2⟩ := h
  refine ⟨by rw [o.N]; exact h1, ?_⟩
  unfold L2.Loc
  rw [o.sc]
  split at h2
  · rename_i e; exact ⟨.inl e, .inr e⟩
  · rename_i e; exact ⟨.inr e, .inl (o.fn x h2)⟩
  · cases h2
mutual
theorem mtG_ok {h : Bool} (o : XOk B T X G W) (hx : h = true → HotX X) : ∀ (g : AM.G) (x : Expr), mtG h T g x = true → PG X x (cG X.K g)
  | .nm i, x, q => by
    cases x <;> try (unfold mtG at q; cases q)
    unfold mtG at q
    obtain ⟨h1, h2, h3⟩ := loc_of o q
    exact kg_nm (by rw [o.N]; exact o.nd) h1 h2 h3
  | .tp gs, x, q => by
    cases x <;> try (unfold mtG at q; cases q)
    unfold mtG at q
    simp only [Bool.and_eq_true, decide_eq_true_eq] at q
    obtain ⟨h1, h2, h3, h4⟩ := q
    rw [Bool.or_eq_true] at h1
    rcases h1 with h1 | h1
    · exact kg_tp (o.calm h1) (mtGs_ok o hx gs _ h4) h2 h3
    · exact kg_tpH (hx h1) (mtGs_ok o hx gs _ h4) h2 h3
  | .nil, x, q => by cases x <;> (unfold mtG at q; cases q)
  | .cons _ _, x, q => by cases x <;> (unfold mtG at q; cases q)
theorem mtGs_ok {h : Bool} (o : XOk B T X G W) (hx : h = true → HotX X) : ∀ (gs : AM.G) (xs : List Expr), mtGs h T gs xs = true → PGs X xs (cGs X.K gs)
  | .nil, [], q => kg_nil
  | .cons g gs, e :: es, q => by
    unfold mtGs at q
    simp only [Bool.and_eq_true] at q
    exact kg_cons (mtG_ok o hx g e q.2.1) (mtGs_ok o hx gs es q.2.2) q.1
  | .nil, _ :: _, q => by unfold mtGs at q; cases q
  | .cons _ _, [], q => by unfold mtGs at q; cases q
  | .nm _, _, q => by unfold mtGs at q; cases q
  | .tp _, _, q => by unfold mtGs at q; cases q
end
theorem XOk.blk (o : XOk B T X G W) {G' : Gd} (gk : GOk G') (s : Shared) (H : Hp) (scope : Scope) (c : Addr) (cl : List (Str × Addr)) (fp : List Addr) : XOk B (blkT T scope) (X.blk s H scope (compEnvC scope cl c X.env) fp) G' W0 where
  P := o.P
  w := o.w
  K := o.K
  mg := o.mg
  base := o.base
  N := o.N
  nd := o.nd
  sc := by
    show relS scope X.env.scope = relS scope T.sc
    rw [o.sc]
  fn := fun x h => h
  calm := o.calm
  room := o.room
  un := o.un
  tk := takes0N
  hot := fun h => by cases h
  gok := gk
  pn := fun h => by cases h
  h0 := fun h => by cases h
  lam := fun h => by cases h
theorem XOk.lamx (o : XOk B T X G W) {E : XK} {A : Around} {outer : List Env} {s : Shared} {H : Hp} {scope : Scope} {f c' : Addr} (hr : Room B.k (A.deeper (LamX.lamEnv X scope s.heap.objs.size f c'))) : XOk B (lamT T scope) (lamN X A outer s H E scope f c') G (WL E) where
  P := o.P
  w := o.w
  K := o.K
  mg := o.mg
  base := o.base
  N := o.N
  nd := o.nd
  sc := rfl
  fn := fun x h => by cases h
  calm := fun _ => rfl
  room := fun _ => hr
  un := by
    have := hr.un
    show (A.deeper (LamX.lamEnv X scope s.heap.objs.size f c')).units + 64 < cLine
    omega
  tk := L2N.takes_of rfl rfl rfl rfl
  hot := fun h => by cases h
  gok := o.gok
  pn := fun h => by cases h
  h0 := fun h => by cases h
  lam := fun h => by cases h
theorem nset_ok {x : Expr} {env : Env} (h : nset x = true) : ∀ y, foldedSetIterable x env y = pure y := by
  cases x <;> first | (intro y; rfl) | cases h

/-! ### soundness of terms -/
structure SE (B : Bd) (a : E) : Prop where
  v : ∀ (T : TX) (X : Cx) (G : Gd) (W : Wish) (x : Expr), XOk B T X G W → (mt B.tb a).e T x = true → PE X x (tA B.C G W (ev B.Φ a))
  t : ∀ (T : TX) (X : Cx) (G : Gd) (W : Wish) (x : Expr), XOk B T X G W → (mt B.tb a).t T x = true → PT X x (tBo B.C G W (tst B.Φ a))
  l : ∀ (T : TX) (X : Cx) (G : Gd) (W : Wish) (xs : List Expr), XOk B T X G W → (mt B.tb a).l T xs = true → PA X xs (tNs B.C G W (evs B.Φ a))
  b : ∀ (T : TX) (X : Cx) (G : Gd) (W : Wish) (xs : List Expr) (pos : Pos), XOk B T X G W → (mt B.tb a).b T xs = true → (∃ b r, a = .cons b r) ∧ PE X (.BoolOp .And xs pos) (tA B.C G W (evAn B.Φ a)) ∧ PE X (.BoolOp .Or xs pos) (tA B.C G W (evOr B.Φ a))
  bt : ∀ (T : TX) (X : Cx) (G : Gd) (W : Wish) (xs : List Expr) (pos : Pos), XOk B T X G W → (mt B.tb a).bt T xs = true → (∃ b r, a = .cons b r) ∧ PW X (.BoolOp .And xs pos) (tBo B.C G W (tstAn B.Φ a)) ∧ PW X (.BoolOp .Or xs pos) (tBo B.C G W (tstOr B.Φ a))
  i : ∀ (fr : Bool) (T : TX) (X : Cx) (G : Gd) (W : Wish) (tg x : Expr), XOk B T X G W → (mt B.tb a).i T tg x = true → PI X tg x (tI B.C G W (evIt B.Φ fr a)) ∧ nset x = true
  p : ∀ (T : TX) (X : Cx) (G : Gd) (W : Wish) (o : Option Expr), XOk B T X G W → (mt B.tb a).p T o = true → PO X o (tPo B.C G W (part B.Φ a))
  ts : ∀ (T : TX) (X : Cx) (G : Gd) (W : Wish) (xs : List Expr), XOk B T X G W → (mt B.tb a).ts T xs = true → PTs X xs (tBo B.C G W (tsts B.Φ a))
  z : (mt B.tb a).z = true → a = .nil
  sq : (mt B.tb a).sq = true → ∀ fr, evIt B.Φ fr a = bnd (itA fr (ev B.Φ a)) srcOf
/-- of a term that has but a value -/
theorem SE.of {e : E} {f : TX → Expr → Bool} (hm : mt B.tb e = MT.of f) (hp : e ≠ .nop) (ht : tst B.Φ e = bnd (opn (ev B.Φ e)) trA) (hi : ∀ fr, evIt B.Φ fr e = bnd (itA fr (ev B.Φ e)) srcOf)
    (h : ∀ (T : TX) (X : Cx) (G : Gd) (W : Wish) (x : Expr), XOk B T X G W → f T x = true → PE X x (tA B.C G W (ev B.Φ e))) : SE B e where
  v := fun T X G W x o q => by rw [hm] at q; exact h T X G W x o q
  t := fun T X G W x o q => by
    rw [hm] at q
    have q : (plT x && f T x) = true := q
    simp only [Bool.and_eq_true] at q
    exact kt_tru o.K (h T X G W x o q.2) q.1 ht
  l := fun T X G W xs o q => by rw [hm] at q; cases q
  b := fun T X G W xs pos o q => by rw [hm] at q; cases q
  bt := fun T X G W xs pos o q => by rw [hm] at q; cases q
  i := fun fr T X G W tg x o q => by
    rw [hm] at q
    have q : (nset x && f T x) = true := q
    simp only [Bool.and_eq_true] at q
    exact ⟨k_seq o.K (h T X G W x o q.2) (hi fr), q.1⟩
  p := fun T X G W o' o q => by
    rw [hm] at q
    cases o' with
    | none => cases q
    | some x => exact k_part hp (h T X G W x o q)
  ts := fun T X G W xs o q => by rw [hm] at q; cases q
  z := fun q => by rw [hm] at q; cases q
  sq := fun _ => hi
theorem SE.ofT {e : E} {f t : TX → Expr → Bool} (hm : mt B.tb e = MT.ofT f t) (hp : e ≠ .nop) (hi : ∀ fr, evIt B.Φ fr e = bnd (itA fr (ev B.Φ e)) srcOf)
    (h : ∀ (T : TX) (X : Cx) (G : Gd) (W : Wish) (x : Expr), XOk B T X G W → f T x = true → PE X x (tA B.C G W (ev B.Φ e)))
    (ht : ∀ (T : TX) (X : Cx) (G : Gd) (W : Wish) (x : Expr), XOk B T X G W → t T x = true → PT X x (tBo B.C G W (tst B.Φ e))) : SE B e where
  v := fun T X G W x o q => by rw [hm] at q; exact h T X G W x o q
  t := fun T X G W x o q => by rw [hm] at q; exact ht T X G W x o q
  l := fun T X G W xs o q => by rw [hm] at q; cases q
  b := fun T X G W xs pos o q => by rw [hm] at q; cases q
  bt := fun T X G W xs pos o q => by rw [hm] at q; cases q
  i := fun fr T X G W tg x o q => by
    rw [hm] at q
    have q : (nset x && f T x) = true := q
    simp only [Bool.and_eq_true] at q
    exact ⟨k_seq o.K (h T X G W x o q.2) (hi fr), q.1⟩
  p := fun T X G W o' o q => by
    rw [hm] at q
    cases o' with
    | none => cases q
    | some x => exact k_part hp (h T X G W x o q)
  ts := fun T X G W xs o q => by rw [hm] at q; cases q
  z := fun q => by rw [hm] at q; cases q
  sq := fun _ => hi
/-- of a term that is only walked -/
theorem SE.ofI {e : E} {f : TX → Expr → Expr → Bool} (hm : mt B.tb e = { MT.no with i := f })
    (h : ∀ (fr : Bool) (T : TX) (X : Cx) (G : Gd) (W : Wish) (tg x : Expr), XOk B T X G W → f T tg x = true → PI X tg x (tI B.C G W (evIt B.Φ fr e)) ∧ nset x = true) : SE B e where
  v := fun T X G W x o q => by rw [hm] at q; cases q
  t := fun T X G W x o q => by
    rw [hm] at q
    have q : (plT x && false) = true := q
    rw [Bool.and_false] at q
    cases q
  l := fun T X G W xs o q => by rw [hm] at q; cases q
  b := fun T X G W xs pos o q => by rw [hm] at q; cases q
  bt := fun T X G W xs pos o q => by rw [hm] at q; cases q
  i := fun fr T X G W tg x o q => by rw [hm] at q; exact h fr T X G W tg x o q
  p := fun T X G W o' o q => by
    rw [hm] at q
    cases o' <;> cases q
  ts := fun T X G W xs o q => by rw [hm] at q; cases q
  z := fun q => by rw [hm] at q; cases q
  sq := fun q => by rw [hm] at q; cases q
end
end AM
set_option Elab.async false
set_option linter.all false
set_option maxRecDepth 100000
set_option maxHeartbeats 1000000
/-! AM12: the soundness of terms. -/
namespace AM
open PySem PySem.Spec PyProof.Rows L2
section
variable {B : Bd}
theorem ownOf_snd {N : List Str} (own : List Nat) : (ownOf N own).map (·.2) = own := by
  unfold ownOf
  rw [List.map_map]
  exact List.map_id _
theorem se_var (ok : BdOk B) (i : Nat) : SE B (.var i) := by
  refine SE.of (by unfold mt; rfl) (fun h => by cases h) (by unfold tst; rfl) (fun fr => by unfold evIt; rfl) fun T X G W x o q => ?_
  split at q
  · obtain ⟨h1, h2, h3, h4⟩ := vis_of o q
    exact k_var h1 h2 h3 h4
  · cases q
theorem se_lit (d : PyData) : SE B (.lit d) := by
  refine SE.of (by unfold mt; rfl) (fun h => by cases h) (by unfold tst; rfl) (fun fr => by unfold evIt; rfl) fun T X G W x o q => ?_
  split at q
  · obtain rfl := of_decide_eq_true q; exact k_int
  · obtain rfl := of_decide_eq_true q; exact k_bl
  · obtain rfl := of_decide_eq_true q; exact k_str
  · exact k_non
  · cases q
theorem se_glb (ok : BdOk B) (n : Str) (d : PyData) : SE B (.glb n d) := by
  refine SE.of (by unfold mt; rfl) (fun h => by cases h) (by unfold tst; rfl) (fun fr => by unfold evIt; rfl) fun T X G W x o q => ?_
  split at q
  · simp only [Bool.and_eq_true, decide_eq_true_eq, Bool.not_eq_true'] at q
    obtain ⟨rfl, h1, h2, h3⟩ := q
    obtain ⟨t, ht⟩ := ok.nums _ h3
    exact k_glb (gl_of o h1) (by rw [o.mg]; exact ht) h2
  · cases q
theorem se_neg {a : E} (ha : SE B a) : SE B (.neg a) := by
  refine SE.of (by unfold mt; rfl) (fun h => by cases h) (by unfold tst; rfl) (fun fr => by unfold evIt; rfl) fun T X G W x o q => ?_
  split at q
  · exact k_neg (ha.v T X G W _ o q)
  · cases q
theorem se_nt {a : E} (ha : SE B a) : SE B (.nt a) := by
  refine SE.ofT (by unfold mt; rfl) (fun h => by cases h) (fun fr => by unfold evIt; rfl) (fun T X G W x o q => ?_) fun T X G W x o q => ?_
  · split at q
    · exact k_nt o.K (ha.v T X G W _ o q)
    · cases q
  · split at q
    · exact kt_nt (ha.t T X G W _ o q)
    · cases q
theorem se_an {a : E} (ha : SE B a) : SE B (.an a) := by
  refine SE.ofT (by unfold mt; rfl) (fun h => by cases h) (fun fr => by unfold evIt; rfl) (fun T X G W x o q => ?_) fun T X G W x o q => ?_
  · split at q
    · exact k_anE (ha.b T X G W _ _ o q).2.1
    · cases q
  · split at q
    · exact kt_an (ha.bt T X G W _ _ o q).2.1
    · cases q
theorem se_orr {a : E} (ha : SE B a) : SE B (.orr a) := by
  refine SE.ofT (by unfold mt; rfl) (fun h => by cases h) (fun fr => by unfold evIt; rfl) (fun T X G W x o q => ?_) fun T X G W x o q => ?_
  · split at q
    · exact k_orE (ha.b T X G W _ _ o q).2.2
    · cases q
  · split at q
    · exact kt_or (ha.bt T X G W _ _ o q).2.2
    · cases q
theorem se_ite {t a c : E} (ht : SE B t) (ha : SE B a) (hc : SE B c) : SE B (.ite t a c) := by
  refine SE.ofT (by unfold mt; rfl) (fun h => by cases h) (fun fr => by unfold evIt; rfl) (fun T X G W x o q => ?_) fun T X G W x o q => ?_
  · split at q
    · simp only [Bool.and_eq_true] at q
      exact k_ite (ht.t T X G W _ o q.1) (ha.v T X G W _ o q.2.1) (hc.v T X G W _ o q.2.2)
    · cases q
  · split at q
    · simp only [Bool.and_eq_true] at q
      exact kt_ite (ht.t T X G W _ o q.1) (ha.t T X G W _ o q.2.1) (hc.t T X G W _ o q.2.2)
    · cases q
theorem se_bin {op : BOp} {a c : E} (ha : SE B a) (hc : SE B c) : SE B (.bin op a c) := by
  refine SE.of (by unfold mt; rfl) (fun h => by cases h) (by unfold tst; rfl) (fun fr => by unfold evIt; rfl) fun T X G W x o q => ?_
  split at q
  · simp only [Bool.and_eq_true, decide_eq_true_eq] at q
    obtain ⟨rfl, h1, h2⟩ := q
    unfold ev
    exact k_bin o.K (ha.v T X G W _ o h1) (hc.v T X G W _ o h2)
  · cases q
theorem se_cmp {op : COp} {a c : E} (ha : SE B a) (hc : SE B c) : SE B (.cmp op a c) := by
  refine SE.ofT (by unfold mt; rfl) (fun h => by cases h) (fun fr => by unfold evIt; rfl) (fun T X G W x o q => ?_) fun T X G W x o q => ?_
  · split at q
    · simp only [Bool.and_eq_true, decide_eq_true_eq] at q
      obtain ⟨rfl, h1, h2⟩ := q
      exact k_cmp o.K o.un (ha.v T X G W _ o h1) (hc.v T X G W _ o h2)
    · cases q
  · split at q
    · simp only [Bool.and_eq_true, decide_eq_true_eq] at q
      obtain ⟨rfl, h1, h2⟩ := q
      exact kt_cmp o.K o.un (ha.v T X G W _ o h1) (hc.v T X G W _ o h2)
    · cases q
theorem se_chn {op op' : COp} {a c d : E} (ha : SE B a) (hc : SE B c) (hd : SE B d) : SE B (.chn op op' a c d) := by
  refine SE.ofT (by unfold mt; rfl) (fun h => by cases h) (fun fr => by unfold evIt; rfl) (fun T X G W x o q => ?_) fun T X G W x o q => ?_
  · split at q
    · simp only [Bool.and_eq_true, decide_eq_true_eq] at q
      obtain ⟨rfl, rfl, h1, h2, h3⟩ := q
      exact k_chn o.K o.un (ha.v T X G W _ o h1) (hc.v T X G W _ o h2) (hd.v T X G W _ o h3)
    · cases q
  · split at q
    · simp only [Bool.and_eq_true, decide_eq_true_eq] at q
      obtain ⟨rfl, rfl, h1, h2, h3⟩ := q
      exact kt_chn o.K o.un (ha.v T X G W _ o h1) (hc.v T X G W _ o h2) (hd.v T X G W _ o h3)
    · cases q
theorem se_isN {k : Bool} {a : E} (ha : SE B a) : SE B (.isN k a) := by
  refine SE.ofT (by unfold mt; rfl) (fun h => by cases h) (fun fr => by unfold evIt; rfl) (fun T X G W x o q => ?_) fun T X G W x o q => ?_
  · split at q
    · simp only [Bool.and_eq_true, decide_eq_true_eq] at q
      obtain ⟨rfl, h1⟩ := q
      exact k_isN (ha.v T X G W _ o h1)
    · cases q
  · split at q
    · simp only [Bool.and_eq_true, decide_eq_true_eq] at q
      obtain ⟨rfl, h1⟩ := q
      exact kt_isN (ha.v T X G W _ o h1)
    · cases q
theorem se_nil : SE B .nil where
  v := fun T X G W x o q => by unfold mt at q; cases q
  t := fun T X G W x o q => by
    unfold mt at q
    have q : (plT x && false) = true := q
    rw [Bool.and_false] at q
    cases q
  l := fun T X G W xs o q => by
    unfold mt at q
    cases xs with
    | nil => exact k_nil
    | cons y ys => cases q
  b := fun T X G W xs pos o q => by unfold mt at q; cases q
  bt := fun T X G W xs pos o q => by unfold mt at q; cases q
  i := fun fr T X G W tg x o q => by
    unfold mt at q
    have q : (nset x && false) = true := q
    rw [Bool.and_false] at q
    cases q
  p := fun T X G W o' o q => by
    unfold mt at q
    cases o' <;> cases q
  ts := fun T X G W xs o q => by
    unfold mt at q
    cases xs with
    | nil => exact kts_nil
    | cons y ys => cases q
  z := fun q => rfl
  sq := fun q => by unfold mt at q; cases q
theorem se_cons {a r : E} (ha : SE B a) (hr : SE B r) : SE B (.cons a r) where
  v := fun T X G W x o q => by unfold mt at q; cases q
  t := fun T X G W x o q => by
    unfold mt at q
    have q : (plT x && false) = true := q
    rw [Bool.and_false] at q
    cases q
  l := fun T X G W xs o q => by
    unfold mt at q
    cases xs with
    | nil => cases q
    | cons y ys =>
      have q : (nst y && ((mt B.tb a).e T y && (mt B.tb r).l T ys)) = true := q
      simp only [Bool.and_eq_true] at q
      exact k_cons (ha.v T X G W _ o q.2.1) (hr.l T X G W _ o q.2.2) q.1
  b := fun T X G W xs pos o q => by
    unfold mt at q
    match xs with
    | [] => cases q
    | [y] =>
      have q : ((mt B.tb r).z && (mt B.tb a).e T y) = true := q
      simp only [Bool.and_eq_true] at q
      obtain rfl := hr.z q.1
      exact ⟨⟨_, _, rfl⟩, k_an1 (ha.v T X G W _ o q.2), k_or1 (ha.v T X G W _ o q.2)⟩
    | y :: z :: ys =>
      have q : ((mt B.tb a).e T y && (mt B.tb r).b T (z :: ys)) = true := q
      simp only [Bool.and_eq_true] at q
      obtain ⟨⟨b', r', rfl⟩, h1, h2⟩ := hr.b T X G W _ pos o q.2
      exact ⟨⟨_, _, rfl⟩, k_an o.K (ha.v T X G W _ o q.1) h1, k_or o.K (ha.v T X G W _ o q.1) h2⟩
  bt := fun T X G W xs pos o q => by
    unfold mt at q
    match xs with
    | [] => cases q
    | [y] =>
      have q : ((mt B.tb r).z && (mt B.tb a).t T y) = true := q
      simp only [Bool.and_eq_true] at q
      obtain rfl := hr.z q.1
      exact ⟨⟨_, _, rfl⟩, kw_an1 (ha.t T X G W _ o q.2), kw_or1 (ha.t T X G W _ o q.2)⟩
    | y :: z :: ys =>
      have q : ((mt B.tb a).t T y && (mt B.tb r).bt T (z :: ys)) = true := q
      simp only [Bool.and_eq_true] at q
      obtain ⟨⟨b', r', rfl⟩, h1, h2⟩ := hr.bt T X G W _ pos o q.2
      exact ⟨⟨_, _, rfl⟩, kw_an (ha.t T X G W _ o q.1) h1, kw_or (ha.t T X G W _ o q.1) h2⟩
  i := fun fr T X G W tg x o q => by
    unfold mt at q
    have q : (nset x && false) = true := q
    rw [Bool.and_false] at q
    cases q
  p := fun T X G W o' o q => by
    unfold mt at q
    cases o' <;> cases q
  ts := fun T X G W xs o q => by
    unfold mt at q
    match xs with
    | [] => cases q
    | [y] =>
      have q : ((mt B.tb r).z && (mt B.tb a).t T y) = true := q
      simp only [Bool.and_eq_true] at q
      obtain rfl := hr.z q.1
      exact kts_one (ha.t T X G W _ o q.2)
    | _ :: _ :: _ => cases q
  z := fun q => by unfold mt at q; cases q
  sq := fun q => by unfold mt at q; cases q
theorem se_tup {l : E} (hl : SE B l) : SE B (.tup l) := by
  refine SE.of (by unfold mt; rfl) (fun h => by cases h) (by unfold tst; rfl) (fun fr => by unfold evIt; rfl) fun T X G W x o q => ?_
  split at q
  · exact k_tup (hl.l T X G W _ o q)
  · cases q
theorem se_lst {l : E} (hl : SE B l) : SE B (.lst l) := by
  refine SE.of (by unfold mt; rfl) (fun h => by cases h) (by unfold tst; rfl) (fun fr => by unfold evIt; rfl) fun T X G W x o q => ?_
  split at q
  · exact k_lst (hl.l T X G W _ o q)
  · cases q
theorem se_ix {a i : E} (ha : SE B a) (hi : SE B i) : SE B (.ix a i) := by
  refine SE.of (by unfold mt; rfl) (fun h => by cases h) (by unfold tst; rfl) (fun fr => by unfold evIt; rfl) fun T X G W x o q => ?_
  split at q
  · simp only [Bool.and_eq_true] at q
    exact k_ix o.K (ha.v T X G W _ o q.2.1) (hi.v T X G W _ o q.2.2) q.1
  · cases q
theorem se_slc {a l h : E} (ha : SE B a) (hl : SE B l) (hh : SE B h) : SE B (.slc a l h) := by
  refine SE.of (by unfold mt; rfl) (fun h => by cases h) (by unfold tst; rfl) (fun fr => by unfold evIt; rfl) fun T X G W x o q => ?_
  split at q
  · simp only [Bool.and_eq_true] at q
    exact k_slc o.K (ha.v T X G W _ o q.1) (hl.p T X G W _ o q.2.1) (hh.p T X G W _ o q.2.2)
  · cases q
theorem se_rev {a : E} (ha : SE B a) : SE B (.rev a) := by
  refine SE.of (by unfold mt; rfl) (fun h => by cases h) (by unfold tst; rfl) (fun fr => by unfold evIt; rfl) fun T X G W x o q => ?_
  split at q
  · simp only [Bool.and_eq_true, decide_eq_true_eq] at q
    obtain ⟨rfl, h1⟩ := q
    exact k_rev o.K (ha.v T X G W _ o h1)
  · cases q
theorem se_nop : SE B .nop where
  v := fun T X G W x o q => by unfold mt at q; cases q
  t := fun T X G W x o q => by
    unfold mt at q
    have q : (plT x && false) = true := q
    rw [Bool.and_false] at q
    cases q
  l := fun T X G W xs o q => by unfold mt at q; cases q
  b := fun T X G W xs pos o q => by unfold mt at q; cases q
  bt := fun T X G W xs pos o q => by unfold mt at q; cases q
  i := fun fr T X G W tg x o q => by
    unfold mt at q
    have q : (nset x && false) = true := q
    rw [Bool.and_false] at q
    cases q
  p := fun T X G W o' o q => by
    unfold mt at q
    cases o' with
    | none => exact k_part0
    | some x => cases q
  ts := fun T X G W xs o q => by unfold mt at q; cases q
  z := fun q => by unfold mt at q; cases q
  sq := fun q => by unfold mt at q; cases q
theorem se_call (ok : BdOk B) {f : Nat} {l : E} (hl : SE B l) : SE B (.call f l) := by
  refine SE.of (by unfold mt; rfl) (fun h => by cases h) (by unfold tst; rfl) (fun fr => by unfold evIt; rfl) fun T X G W x o q => ?_
  split at q
  · simp only [Bool.and_eq_true, decide_eq_true_eq, Bool.not_eq_true'] at q
    obtain ⟨h1, h2, h3, h4, h5, h6⟩ := q
    obtain ⟨f1, f2, f3, f4, f5⟩ := ok.fn f _ h1
    have f4' : FnOk X.prog X.w X.K X.mg X.base (L2N.CX X.prog X.w) B.k (B.fa f) (B.fd f) (B.ps f) (spF B.C B.Φ f (B.ps f).length) := by
      rw [o.P, o.w, o.K, o.mg, o.base]; exact f4
    exact k_call f4' (Room.le (o.room h3) (Nat.le_add_right _ _)) (gl_of o h2) (by rw [o.mg]; exact f1) (by rw [o.K]; exact f2) (by rw [o.K]; exact f3) o.tk f5 (hl.l T X G W _ o h6) h5 h4
  · cases q
theorem se_blt (ok : BdOk B) {bl : Blt} {l : E} (hl : SE B l) : SE B (.blt bl l) := by
  refine SE.of (by unfold mt; rfl) (fun h => by cases h) (by unfold tst; rfl) (fun fr => by unfold evIt; rfl) fun T X G W x o q => ?_
  split at q
  · simp only [Bool.and_eq_true, decide_eq_true_eq, Bool.or_eq_true, Bool.not_eq_true'] at q
    obtain ⟨rfl, h1, h2, h3, h4⟩ := q
    obtain ⟨g1, g2⟩ := fr_of o ok h1
    refine k_blt o.K g1 g2 (fun hb => ?_) (hl.l T X G W _ o h4) h3
    rcases h2 with h2 | h2
    · rw [hb] at h2; cases h2
    · exact o.calm h2
  · cases q
theorem se_inst (ok : BdOk B) {a : E} {t : Ty} (ha : SE B a) : SE B (.inst a t) := by
  refine SE.of (by unfold mt; rfl) (fun h => by cases h) (by unfold tst; rfl) (fun fr => by unfold evIt; rfl) fun T X G W x o q => ?_
  split at q
  · simp only [Bool.and_eq_true, decide_eq_true_eq] at q
    obtain ⟨rfl, h1, rfl, h2, h3, h4⟩ := q
    obtain ⟨g1, g2⟩ := fr_of o ok h1
    obtain ⟨g3, g4⟩ := fr_of o ok h2
    exact k_inst o.K g1 g2 g3 g4 (ha.v T X G W _ o h4) h3
  · cases q
theorem se_excIs (ok : BdOk B) {i c : Nat} : SE B (.excIs i c) := by
  refine SE.of (by unfold mt; rfl) (fun h => by cases h) (by unfold tst; rfl) (fun fr => by unfold evIt; rfl) fun T X G W x o q => ?_
  split at q
  · simp only [Bool.and_eq_true, decide_eq_true_eq, Bool.not_eq_true'] at q
    obtain ⟨rfl, h1, h2, h3, h4, h5, h6⟩ := q
    obtain ⟨g1, g2⟩ := fr_of o ok h1
    obtain ⟨v1, v2, v3, v4⟩ := vis_of o h3
    exact k_excIs o.K ok.xc ok.sub (o.pn h2) v1 v2 v3 v4 g1 g2 (gl_of o h5) (by rw [o.mg]; exact ok.cl _ _ h4) h6
  · cases q
theorem se_what (ok : BdOk B) {i : Nat} : SE B (.what i) := by
  refine SE.of (by unfold mt; rfl) (fun h => by cases h) (by unfold tst; rfl) (fun fr => by unfold evIt; rfl) fun T X G W x o q => ?_
  split at q
  · simp only [Bool.and_eq_true, decide_eq_true_eq, Bool.not_eq_true'] at q
    obtain ⟨rfl, h2, h3⟩ := q
    obtain ⟨v1, v2, v3, v4⟩ := vis_of o h3
    exact k_what o.K ok.xc (o.pn h2) v1 v2 v3 v4
  · cases q
theorem se_meth {m : Mth} {a l : E} (ha : SE B a) (hl : SE B l) : SE B (.meth m a l) := by
  refine SE.of (by unfold mt; rfl) (fun h => by cases h) (by unfold tst; rfl) (fun fr => by unfold evIt; rfl) fun T X G W x o q => ?_
  split at q
  · rename_i ob name apos ys cpos
    simp only [Bool.and_eq_true, decide_eq_true_eq] at q
    obtain ⟨rfl, h1, h2, h3, h4⟩ := q
    cases m with
    | append =>
      obtain ⟨y, rfl, h5⟩ := one1_of h4
      rw [Bool.and_eq_true] at h5
      exact k_append h1 (ha.v T X G W _ o h3) (hl.l T X G W _ o h5.2) h5.1 h2
    | extend =>
      obtain ⟨y, rfl, h5⟩ := one1_of h4
      rw [Bool.and_eq_true] at h5
      exact k_extend h1 (ha.v T X G W _ o h3) (hl.l T X G W _ o h5.2) h5.1 h2
    | join =>
      obtain ⟨y, rfl, h5⟩ := one1_of h4
      rw [Bool.and_eq_true] at h5
      exact k_join h1 (ha.v T X G W _ o h3) (hl.l T X G W _ o h5.2) h5.1 h2 o.K
    | pop =>
      have h4 : (ys.isEmpty && (mt B.tb l).z) = true := h4
      rw [Bool.and_eq_true] at h4
      obtain rfl := hl.z h4.2
      cases ys with
      | nil => exact k_pop h1 (ha.v T X G W _ o h3) h2
      | cons y ys => cases h4.1
  · cases q
theorem se_comp {el it ts : E} {g : AM.G} {own : List Nat} (hel : SE B el) (hit : SE B it) (hts : SE B ts) : SE B (.comp el g it ts own) := by
  refine SE.of (by unfold mt; rfl) (fun h => by cases h) (by unfold tst; rfl) (fun fr => by unfold evIt; rfl) fun T X G W x o q => ?_
  split at q
  · rename_i elt tg iter ifs a scope pos
    simp only [Bool.and_eq_true, decide_eq_true_eq] at q
    obtain ⟨rfl, h2, h3, h4, h5, h6, h7⟩ := q
    have hown := ownOf_snd (N := T.N) own
    have hgv : ∀ j ∈ gvs g, j ∈ (ownOf T.N own).map (·.2) := fun j hj => by rw [hown]; exact of_decide_eq_true (List.all_eq_true.mp h3 j hj)
    have okb : BlkOk X.N X.env.scope scope (ownOf T.N own) := by rw [o.N, o.sc]; exact blkOk_by h2
    cases hT : T.hot with
    | false =>
      rw [hT] at h4 h5
      have h4 : (T.calm && (mt B.tb it).i T tg iter) = true := h4
      rw [Bool.and_eq_true] at h4
      obtain ⟨pi, ns⟩ := hit.i false T X G W tg iter o h4.2
      have z := k_comp (C := B.C) (G := G) (W := W) (Φ := B.Φ) (elt := elt) (tg := tg) (iter := iter) (ifs := ifs) (scope := scope) (own := ownOf T.N own) (pos := pos) (it := it) (el := el) (ts := ts) (g := g) o.K (o.calm h4.1) (by rw [o.N]; exact o.nd) o.gok pi okb
        (fun s H c cl fp => mtG_ok (h := false) (o.blk o.gok s H scope c cl fp) (fun z => by cases z) g tg h5)
        (fun s H c cl fp G' gk => hts.ts _ _ G' W0 ifs (o.blk gk s H scope c cl fp) h6)
        (fun s H c cl fp G' gk => hel.v _ _ G' W0 elt (o.blk gk s H scope c cl fp) h7) hgv (nset_ok ns)
      rw [hown] at z
      exact z
    | true =>
      rw [hT] at h4 h5
      have h4 : ((mt B.tb it).sq && (nset iter && (mt B.tb it).e T iter)) = true := h4
      rw [Bool.and_eq_true, Bool.and_eq_true] at h4
      have z := k_compH (C := B.C) (G := G) (W := W) (Φ := B.Φ) (elt := elt) (tg := tg) (iter := iter) (ifs := ifs) (scope := scope) (own := ownOf T.N own) (pos := pos) (it := it) (el := el) (ts := ts) (g := g) o.K (o.hot hT) (by rw [o.N]; exact o.nd) o.gok (hit.v T X G W iter o h4.2.2) (hit.sq h4.1 false) okb
        (fun s H c cl fp hx => mtG_ok (h := true) (o.blk o.gok s H scope c cl fp) (fun _ => hx) g tg h5)
        (fun s H c cl fp G' gk => hts.ts _ _ G' W0 ifs (o.blk gk s H scope c cl fp) h6)
        (fun s H c cl fp G' gk => hel.v _ _ G' W0 elt (o.blk gk s H scope c cl fp) h7) hgv (nset_ok h4.2.1)
      rw [hown] at z
      exact z
  · cases q
theorem se_told (ok : BdOk B) {f : Nat} {c : E} (hc : SE B c) : SE B (.told f c) := by
  refine SE.of (by unfold mt; rfl) (fun h => by cases h) (by unfold tst; rfl) (fun fr => by unfold evIt; rfl) fun T X G W x o q => ?_
  split at q
  · simp only [Bool.and_eq_true, decide_eq_true_eq, Bool.not_eq_true'] at q
    obtain ⟨h1, h2, h3, h4, h5, h6, h7, h8⟩ := q
    exact ok.heard f _ h1 T X G W c _ _ _ _ _ o h3 h4 h6 (gl_of o h2) (LamX.lamS_by (by rw [o.sc]; exact h7)) fun A outer s H E f c' hr => hc.v _ _ G _ _ (o.lamx hr) h8
  · cases q
theorem isTup_of {x : Expr} (h : isTup x = true) : ∃ es k p, x = .Tuple es k p := by
  cases x <;> first | exact ⟨_, _, _, rfl⟩ | cases h
theorem se_range1 (ok : BdOk B) {a : E} (ha : SE B a) : SE B (.range1 a) := by
  refine SE.ofI (by unfold mt; rfl) fun fr T X G W tg x o q => ?_
  split at q
  · simp only [Bool.and_eq_true, decide_eq_true_eq] at q
    obtain ⟨rfl, h1, h2, h3⟩ := q
    obtain ⟨g1, g2⟩ := fr_of o ok h1
    exact ⟨k_range1 g1 g2 (ha.v T X G W _ o h3) h2, rfl⟩
  · cases q
theorem se_range2 (ok : BdOk B) {a c : E} (ha : SE B a) (hc : SE B c) : SE B (.range2 a c) := by
  refine SE.ofI (by unfold mt; rfl) fun fr T X G W tg x o q => ?_
  split at q
  · simp only [Bool.and_eq_true, decide_eq_true_eq] at q
    obtain ⟨rfl, h1, h2, h3, h4, h5⟩ := q
    obtain ⟨g1, g2⟩ := fr_of o ok h1
    exact ⟨k_range2 g1 g2 (ha.v T X G W _ o h4) (hc.v T X G W _ o h5) h2 h3, rfl⟩
  · cases q
theorem se_enum (ok : BdOk B) {a : E} (ha : SE B a) : SE B (.enum a) := by
  refine SE.ofI (by unfold mt; rfl) fun fr T X G W tg x o q => ?_
  rw [Bool.and_eq_true] at q
  obtain ⟨q0, q⟩ := q
  obtain ⟨es, k, p, rfl⟩ := isTup_of q0
  split at q
  · simp only [Bool.and_eq_true, decide_eq_true_eq] at q
    obtain ⟨rfl, h1, h2, h3⟩ := q
    obtain ⟨g1, g2⟩ := fr_of o ok h1
    exact ⟨k_enum o.K g1 g2 (ha.v T X G W _ o h3) h2, rfl⟩
  · cases q
theorem se_zip (ok : BdOk B) {a c : E} (ha : SE B a) (hc : SE B c) : SE B (.zip a c) := by
  refine SE.ofI (by unfold mt; rfl) fun fr T X G W tg x o q => ?_
  rw [Bool.and_eq_true] at q
  obtain ⟨q0, q⟩ := q
  obtain ⟨es, k, p, rfl⟩ := isTup_of q0
  split at q
  · simp only [Bool.and_eq_true, decide_eq_true_eq] at q
    obtain ⟨rfl, h1, h2, h3, h4, h5⟩ := q
    obtain ⟨g1, g2⟩ := fr_of o ok h1
    exact ⟨k_zip o.K g1 g2 (ha.v T X G W _ o h4) (hc.v T X G W _ o h5) h2 h3, rfl⟩
  · cases q
theorem se (ok : BdOk B) (a : E) : SE B a := by
  induction a with
  | var i => exact se_var ok i
  | lit d => exact se_lit d
  | glb x d => exact se_glb ok x d
  | neg a ha => exact se_neg ha
  | nt a ha => exact se_nt ha
  | an a ha => exact se_an ha
  | orr a ha => exact se_orr ha
  | ite t a b ht ha hb => exact se_ite ht ha hb
  | bin o a b ha hb => exact se_bin ha hb
  | cmp o a b ha hb => exact se_cmp ha hb
  | chn o o' a b c ha hb hc => exact se_chn ha hb hc
  | isN k a ha => exact se_isN ha
  | nil => exact se_nil
  | cons a b ha hb => exact se_cons ha hb
  | tup l hl => exact se_tup hl
  | lst l hl => exact se_lst hl
  | ix a i ha hi => exact se_ix ha hi
  | slc a l h ha hl hh => exact se_slc ha hl hh
  | rev a ha => exact se_rev ha
  | nop => exact se_nop
  | call f l hl => exact se_call ok hl
  | blt b l hl => exact se_blt ok hl
  | inst a t ha => exact se_inst ok ha
  | excIs i c => exact se_excIs ok
  | what i => exact se_what ok
  | meth m a l ha hl => exact se_meth ha hl
  | comp el g it ts own h1 h2 h3 => exact se_comp h1 h2 h3
  | told f b hb => exact se_told ok hb
  | range1 a ha => exact se_range1 ok ha
  | range2 a b ha hb => exact se_range2 ok ha hb
  | enum a ha => exact se_enum ok ha
  | zip a b ha hb => exact se_zip ok ha hb
end
end AM
set_option Elab.async false
set_option linter.all false
set_option maxRecDepth 100000
set_option maxHeartbeats 1000000
/-! AM13: the constructs of statements, one rule each. -/
namespace AM
open PySem PySem.Spec PyProof.Rows L2

def RRet (C : Cn) (G : Gd) (H : Hp) (v : V) : RV → Prop
  | .val d => Rf C.K H v d
  | .new xs => ∃ a ws, v = .ref a ∧ H a = some (.lst ws) ∧ Rfs C.K H ws xs ∧ G.Hin a = none
/-- a suite's outcome is as wished -/
def RunS (C : Cn) (G : Gd) (W : Wish) (D : Ends) (H : Hp) : SO → Prop
  | .nx s => ∀ σ' H', Ext H H' → Sim C G s σ' H' → D.nx σ' H'
  | .brk s => ∀ σ' H', Ext H H' → Sim C G s σ' H' → D.bk σ' H'
  | .ct s => ∀ σ' H', Ext H H' → Sim C G s σ' H' → D.ct σ' H'
  | .ret r s => ∀ σ' v H', Ext H H' → Sim C G s σ' H' → RRet C G H' v r → D.rt v H'
  | .err c w s => ∀ σ' d vw H', Ext H H' → Sim C G s σ' H' → H' d = some (.xd [(("what" : Str), vw)]) → Rf C.K H' vw w → W (.ref (C.cad c)) (some d) σ' H'
  | .bad => False
def tS (C : Cn) (G : Gd) (W : Wish) (m : AS → SO) : TS := fun D σ H => ∃ s, Sim C G s σ H ∧ RunS C G W D H (m s)
section
variable {C : Cn} {G : Gd} {W : Wish} {D : Ends} {H H1 : Hp} {σ : St}
theorem RunS.from {r : SO} (h : RunS C G W D H r) (e : Ext H H1) : RunS C G W D H1 r := by
  cases r with
  | nx s => exact fun σ' H' e' S => h σ' H' (e.trans e') S
  | brk s => exact fun σ' H' e' S => h σ' H' (e.trans e') S
  | ct s => exact fun σ' H' e' S => h σ' H' (e.trans e') S
  | ret r s => exact fun σ' v H' e' S => h σ' v H' (e.trans e') S
  | err c w s => exact fun σ' d vw H' e' S => h σ' d vw H' (e.trans e') S
  | bad => exact h
theorem RunS.so {α : Type} {o : Out α} {f : α → AS → SO} (h : RunS C G W D H (o.so f)) : Run C G W σ H o fun a s' H' => RunS C G W D H' (f a s') := by
  cases o with
  | ok a s => exact fun H' e S => RunS.from (show RunS C G W D H (f a s) from h) e
  | err c w s => exact fun d vw H' e S h1 h2 => h σ d vw H' e S h1 h2
  | bad => exact h
theorem RunS.nx {s : AS} (h : RunS C G W D H (.nx s)) (S : Sim C G s σ H) : D.nx σ H := h σ H (Ext.refl H) S
end
section
variable {X : Cx} {C : Cn} {G : Gd} {W : Wish} {Φ : Calls} {st : Stmt} {sts : List Stmt} {pos : Pos}
theorem s_nil : PSs X [] (tS C G W (ex Φ .nil)) := pss_imp pss_nil fun D σ H ⟨s, S, q⟩ => by
  unfold ex at q
  exact q.nx S
theorem s_seq {a r} (h1 : PS X st (tS C G W (ex Φ a))) (h2 : PSs X sts (tS C G W (ex Φ r))) : PSs X (st :: sts) (tS C G W (ex Φ (.seq a r))) := by
  refine pss_imp (pss_cons h1 h2) fun D σ H ⟨s, S, q⟩ => ⟨s, S, ?_⟩
  unfold ex at q
  cases h : ex Φ a s with
  | nx s1 => rw [h] at q; exact fun σ' H' e S' => ⟨s1, S', RunS.from q e⟩
  | ret r s1 => rw [h] at q; exact q
  | brk s1 => rw [h] at q; exact q
  | ct s1 => rw [h] at q; exact q
  | err c w s1 => rw [h] at q; exact q
  | bad => rw [h] at q; exact q
theorem s_pass : PS X (.Pass pos) (tS C G W (ex Φ .pass)) := ps_imp ps_pass fun D σ H ⟨s, S, q⟩ => by
  unfold ex at q
  exact q.nx S
theorem s_doc {x j pos'} : PS X (.Expr (.Constant (.str x) j pos) pos') (tS C G W (ex Φ .pass)) := ps_imp ps_doc fun D σ H ⟨s, S, q⟩ => by
  unfold ex at q
  exact q.nx S
theorem s_brk : PS X (.Break pos) (tS C G W (ex Φ .brk)) := ps_imp ps_break fun D σ H ⟨s, S, q⟩ => by
  unfold ex at q
  exact q σ H (Ext.refl H) S
theorem s_cont : PS X (.Continue pos) (tS C G W (ex Φ .cont)) := ps_imp ps_continue fun D σ H ⟨s, S, q⟩ => by
  unfold ex at q
  exact q σ H (Ext.refl H) S
variable {e : Expr}
/-- of an expression's value, kept by a slot -/
theorem take_run {i : Nat} {σ : St} {H : Hp} {s : AS} {v : V} {a : AV} {D : Ends} (S : Sim C G s σ H) (r : RA C G s σ H v a) (q : Run C G W σ H (take1 a s) fun sv s1 H1 => RunS C G W D H1 (.nx (s1.set i (some sv)))) : Lk (D.nx (σ.set i (some v))) H := by
  cases a with
  | val d => exact .now (RunS.nx (q.now S) (S.setVal r))
  | new xs =>
    obtain ⟨a, ws, rfl, h1, h2, h3, h4⟩ := r
    exact .now (RunS.nx (Run.now q S) (S.setNew h1 h2 h3 h4))
  | bor j => exact fz_run S r (Run.bnd q) fun d s1 H1 e1 S1 rf q1 => RunS.nx (Run.now q1 S1) (S1.setVal rf)
theorem PS.lk {t : TS} (h : PS X st t) : PS X st (fun D σ H => t { D with nx := fun σ H => Lk (D.nx σ) H } σ H) := by
  refine ⟨fun pins s σ H D I hw => ?_⟩
  refine thn (h.run pins s σ H _ I hw) fun f s1 q => ?_
  cases f with
  | next =>
    obtain ⟨σ', H', I', q⟩ := q
    obtain ⟨H2, I2, q2⟩ := Lk.inv q I'
    exact ⟨σ', H2, I2, q2⟩
  | brk => exact q
  | cont => exact q
  | ret u => exact q
theorem asg_run {i : Nat} {e1 : E} {D : Ends} {σ : St} {H : Hp} (q : tS C G W (ex Φ (.asg (.nm i) e1)) D σ H) : tAsg (tA C G W (ev Φ e1)) (gName i) { D with nx := fun σ H => Lk (D.nx σ) H } σ H := by
  obtain ⟨s, S, q⟩ := q
  unfold ex at q
  exact ⟨s, S, (Run.bnd (RunS.so q)).imp fun a s1 H1 e1 S1 q1 v r => take_run S1 r q1⟩
theorem s_set {i : Nat} {x : Str} {pos' : Pos} {e1} (hN : X.N.Nodup) (hi : X.N[i]? = some x) (hx : L2.Loc X.env.scope x) (hf : X.fn x = true ∨ X.env.scope.names.lookup x = some .local) (he : PE X e (tA C G W (ev Φ e1))) (hs : swapsWith e (some (.Name x pos')) pos.line X.env = pure false) :
    PS X (.Assign [.Name x pos'] e pos) (tS C G W (ex Φ (.asg (.nm i) e1))) :=
  ps_imp (PS.lk (ps_set hN hi hx he hs hf)) fun D σ H q => asg_run q
theorem s_asg {tg : Expr} {g : AM.G} {e1} (hK : X.K = C.K) (hg : PG X tg (cG X.K g)) (hn : ∀ i, g ≠ .nm i) (he : PE X e (tA C G W (ev Φ e1))) (hs : swapsWithSole [tg] e pos.line X.env = pure false) (hw : swappedStores [tg] e X.env = pure none) (hst : nst tg = true) :
    PS X (.Assign [tg] e pos) (tS C G W (ex Φ (.asg g e1))) := by
  refine ps_imp (ps_asg (pe_vl he) hg hs hw (by rw [nst_assign hst]; rfl)) fun D σ H ⟨s, S, q⟩ => ?_
  have q : RunS C G W D H ((vl (ev Φ e1) s).so fun d s1 => (match bindG g d s1 with
    | some s2 => .nx s2
    | none => .bad)) := by
    cases g with
    | nm i => exact absurd rfl (hn i)
    | tp gs => unfold ex at q; exact q
    | nil => unfold ex at q; exact q
    | cons a b => unfold ex at q; exact q
  refine ⟨s, S, (RunS.so q).imp fun d s1 H1 e1 S1 q1 v r => ?_⟩
  cases hb : bindG g d s1 with
  | none => rw [hb] at q1; exact False.elim q1
  | some s2 =>
    rw [hb] at q1
    rw [hK]
    exact cG_run g hb S1 r fun σ' S2 _ _ => q1.nx S2
theorem s_setIx {i : Nat} {x : Str} {kx : Expr} {p p2 : Pos} {e1 k1} (hN : X.N[i]? = some x) (hv : Vis X.env.scope x) (hd : (x == ("__debug__" : Str)) = false) (hcd : (x == ("__classdict__" : Str)) = false) (hk : PE X kx (tA C G W (ev Φ k1))) (he : PE X e (tA C G W (ev Φ e1))) (hix : plIx kx = true)
    (hs : swapsWithSole [.Subscript (.Name x p) kx p2] e pos.line X.env = pure false) (hw : swappedStores [.Subscript (.Name x p) kx p2] e X.env = pure none) :
    PS X (.Assign [.Subscript (.Name x p) kx p2] e pos) (tS C G W (ex Φ (.setIx i k1 e1))) := by
  have ha : ∀ v, assign (.Subscript (.Name x p) kx p2) X.env v = (do
      let ov ← holding [v] (eval (.Name x p) X.env)
      let iv ← holding [v, ov] (eval kx X.env)
      standAt p2
      holding [v, ov, iv] (setItem ov iv v)
      release [v, ov, iv] []) := by
    intro v
    cases kx <;> first | rfl | cases hix
  refine ps_imp (ps_asg (pe_vl he) (pg_sub (pe_opn (k_var (C := C) (G := G) (W := W) (Φ := Φ) hN hv hd hcd)) (pe_vl hk) set_list ha) hs hw rfl) fun D σ H ⟨s, S, q⟩ => ?_
  unfold ex at q
  refine ⟨s, S, (Run.bnd (RunS.so q)).imp fun d s1 H1 e1 S1 q1 v r => ⟨s1, S1, (Run.bnd q1).imp fun o s2 H2 e2 S2 q2 u r2 => ⟨s2, S2, (Run.bnd q2).imp fun n s3 H3 e3 S3 q3 w r3 => ?_⟩⟩⟩
  have q4 := Run.now q3 S3
  dsimp only at q4
  cases o with
  | bor j =>
    cases n with
    | int k =>
      cases r3
      dsimp only at q4
      cases h : sl s3 j with
      | none => rw [h] at q4; exact False.elim q4
      | some sv =>
        rw [h] at q4
        cases sv with
        | val d => exact False.elim q4
        | exc c w => exact False.elim q4
        | own b xs =>
          dsimp only at q4
          cases hx : ixN xs.length k with
          | none => rw [hx] at q4; exact False.elim q4
          | some m =>
            rw [hx] at q4
            obtain ⟨l, ws, z1, h1, h2, hwr⟩ := S3.write (ys := xs.set m d) h
            obtain ⟨S4, e4⟩ := hwr (ws.set m v) (h2.set m (Rf.ext (e2.trans e3) d v r))
            have r2' : σ[j]? = some (some u) := r2
            rw [r2'] at z1
            cases z1
            exact ⟨l, ws, k, m, rfl, rfl, h1, by rw [h2.length]; exact hx, q4 σ _ e4 S4⟩
    | _ => exact False.elim q4
  | val d => exact False.elim q4
  | new xs => exact False.elim q4
theorem s_expr {e1} (he : PE X e (tA C G W (ev Φ e1))) (hs : swapsWith e none pos.line X.env = pure false) : PS X (.Expr e pos) (tS C G W (ex Φ (.expr e1))) := by
  refine ps_imp (ps_expr he hs) fun D σ H ⟨s, S, q⟩ => ?_
  unfold ex at q
  exact ⟨s, S, (RunS.so q).imp fun a s1 H1 e1 S1 q1 v r => q1.nx S1⟩
theorem s_ret {e1} (he : PE X e (tA C G W (ev Φ e1))) : PS X (.Return (some e) pos) (tS C G W (ex Φ (.ret e1))) := by
  refine ps_imp (ps_ret he) fun D σ H ⟨s, S, q⟩ => ?_
  unfold ex at q
  refine ⟨s, S, (Run.bnd (RunS.so q)).imp fun a s1 H1 e1 S1 q1 v r => ?_⟩
  cases a with
  | val d => exact Run.now q1 S1 σ v H1 (Ext.refl _) S1 r
  | new xs =>
    obtain ⟨a, ws, rfl, h1, h2, h3, h4⟩ := r
    exact Run.now q1 S1 σ _ H1 (Ext.refl _) S1 ⟨a, ws, rfl, h1, h2, h3⟩
  | bor j =>
    have r : σ[j]? = some (some v) := r
    unfold retA at q1
    dsimp only at q1
    cases h : sl s1 j with
    | none => rw [h] at q1; exact False.elim q1
    | some sv =>
      rw [h] at q1
      obtain ⟨v', z1, z2⟩ := S1.slot j _ h
      rw [r] at z1
      cases z1
      cases sv with
      | val d => exact Run.now q1 S1 σ v H1 (Ext.refl _) S1 z2
      | exc c w => exact False.elim q1
      | own b xs =>
        cases b with
        | true => exact False.elim q1
        | false =>
          obtain ⟨a, ws, rfl, h1, h2, h3⟩ := z2
          have S2 := S1.drop j
          exact Run.now q1 S2 σ _ H1 (Ext.refl _) S2 ⟨a, ws, rfl, h1, h2, by simpa using h3⟩
theorem s_retN : PS X (.Return none pos) (tS C G W (ex Φ .retN)) := ps_imp ps_retN fun D σ H ⟨s, S, q⟩ => by
  unfold ex at q
  exact q σ .non H (Ext.refl H) S .non
theorem s_if {c : Expr} {a b : List Stmt} {t1 a1 b1} (hc : PT X c (tBo C G W (tst Φ t1))) (ha : PSs X a (tS C G W (ex Φ a1))) (hb : PSs X b (tS C G W (ex Φ b1))) : PS X (.If c a b pos) (tS C G W (ex Φ (.ifs t1 a1 b1))) := by
  refine ps_imp (ps_if hc ha hb) fun D σ H ⟨s, S, q⟩ => ?_
  unfold ex at q
  refine ⟨s, S, (RunS.so q).imp fun k s1 H1 e1 S1 q1 => ?_⟩
  cases k with
  | true => exact ⟨s1, S1, q1⟩
  | false => exact ⟨s1, S1, q1⟩
/-! ### loops -/
theorem whl_some {c : M Bool} {b : AS → SO} {s : AS} {D : Ends} {H : Hp} (q : RunS C G W D H (whl c b s)) : ∃ n o, whN c b n s = some o ∧ RunS C G W D H o := by
  unfold whl at q
  split at q
  · rename_i h
    exact ⟨_, _, Classical.choose_spec (Classical.choose_spec h), q⟩
  · exact False.elim q
theorem s_while {c : Expr} {body : List Stmt} {t1 b1} (hp : PassesOwn (model X.prog X.w) X.A X.env X.xe) (hc : PT X c (tBo C G W (tst Φ t1))) (hb : PSs X body (tS C G W (ex Φ b1))) : PS X (.While c body [] pos) (tS C G W (ex Φ (.whl t1 b1))) := by
  refine ps_imp (ps_while hp hc hb) fun D σ H ⟨s, S, q⟩ => ?_
  unfold ex at q
  obtain ⟨n, o, hn, ho⟩ := whl_some q
  refine ⟨fun m σ' H' => ∃ s', Sim C G s' σ' H' ∧ Ext H H' ∧ whN (tst Φ t1) (ex Φ b1) m s' = some o, ⟨n, s, S, Ext.refl H, hn⟩, fun m σ' H' ⟨s', S', e', hm⟩ => ?_⟩
  cases m with
  | zero => cases hm
  | succ m =>
    unfold whN at hm
    refine ⟨s', S', ?_⟩
    cases hcs : tst Φ t1 s' with
    | bad =>
      rw [hcs] at hm
      cases hm
      exact ho
    | err k w s1 =>
      rw [hcs] at hm
      cases hm
      exact fun d vw H2 e2 S2 h1 h2 => ho σ' d vw H2 (e'.trans e2) S2 h1 h2
    | ok k s1 =>
      rw [hcs] at hm
      cases k with
      | false =>
        cases hm
        exact fun H2 e2 S2 => ho σ' H2 (e'.trans e2) S2
      | true =>
        dsimp only at hm
        intro H2 e2 S2
        show (if true = true then _ else _)
        rw [if_pos rfl]
        refine ⟨fun σ' H' => ∃ s', Sim C G s' σ' H' ∧ Ext H H' ∧ whN (tst Φ t1) (ex Φ b1) m s' = some o, fun σ3 H3 h3 => ⟨m, Nat.lt_succ_self m, h3⟩, s1, S2, ?_⟩
        cases hbs : ex Φ b1 s1 with
        | nx s2 =>
          rw [hbs] at hm
          exact fun σ3 H3 e3 S3 => ⟨s2, S3, e'.trans (e2.trans e3), hm⟩
        | ct s2 =>
          rw [hbs] at hm
          exact fun σ3 H3 e3 S3 => ⟨s2, S3, e'.trans (e2.trans e3), hm⟩
        | brk s2 =>
          rw [hbs] at hm
          cases hm
          exact fun σ3 H3 e3 S3 => ho σ3 H3 (e'.trans (e2.trans e3)) S3
        | ret r s2 =>
          rw [hbs] at hm
          cases hm
          exact fun σ3 v H3 e3 S3 rr => ho σ3 v H3 (e'.trans (e2.trans e3)) S3 rr
        | err k w s2 =>
          rw [hbs] at hm
          cases hm
          exact fun σ3 d vw H3 e3 S3 h1 h2 => ho σ3 d vw H3 (e'.trans (e2.trans e3)) S3 h1 h2
        | bad =>
          rw [hbs] at hm
          cases hm
          exact ho
theorem s_for {tg iter : Expr} {body : List Stmt} {g : AM.G} {i1 b1} (hK : X.K = C.K) (hp : PassesOwn (model X.prog X.w) X.A X.env X.xe) (hc : X.calm = true) (hi : PI X tg iter (tI C G W (evIt Φ true i1))) (hg : PG X tg (cG X.K g)) (hb : PSs X body (tS C G W (ex Φ b1))) (hs : ∀ x, foldedSetIterable iter X.env x = pure x) :
    PS X (.For tg iter body [] pos) (tS C G W (ex Φ (.forr g i1 b1))) := by
  refine ps_imp (ps_for hp hc hi hg hb hs) fun D σ H ⟨s, S, q⟩ => ?_
  unfold ex at q
  refine ⟨s, S, (RunS.so q).imp fun p s1 H1 e1 S1 q1 J wd => ?_⟩
  obtain ⟨ds, gs⟩ := p
  cases gs with
  | cons x xs => exact False.elim q1
  | nil =>
    have q1 : RunS C G W D H1 (forL g (ex Φ b1) ds s1) := q1
    obtain ⟨Gp, Y, w, wst, wy⟩ := wd
    refine for_it w (fun i σ' H' => ∃ s', Sim C G s' σ' H' ∧ Ext H1 H' ∧ RunS C G W D H' (forL g (ex Φ b1) (ds.drop i) s')) ⟨s1, S1, Ext.refl H1, q1⟩ (fun i σ' H' _ ⟨s', S', e', _⟩ => wst s' σ' H' e' S' (fun q hq => absurd hq (by simp)) rfl) (fun i x σ' H' H'' hi' pv y => ?_) (fun σ' H' ⟨s', S', e', q'⟩ => ?_)
    · obtain ⟨s', S', e', q'⟩ := pv
      obtain ⟨sm, d, hdi, rf⟩ := wy i H' x H'' hi' (wst s' σ' H' e' S' (fun q hq => absurd hq (by simp)) rfl) y
      have hi'' : i < ds.length := hi'
      have hdi : ds[i]? = some d := hdi
      have hdr : ds.drop i = d :: ds.drop (i + 1) := by
        rw [List.drop_eq_getElem_cons hi'']
        rw [List.getElem?_eq_getElem hi''] at hdi
        rw [Option.some.inj hdi]
      rw [hdr] at q'
      unfold forL at q'
      cases hbd : bindG g d s' with
      | none => rw [hbd] at q'; exact False.elim q'
      | some s2 =>
        rw [hbd] at q'
        dsimp only at q'
        rw [hK]
        refine cG_run g hbd (S'.same sm) rf fun σ2 S2 _ _ => ⟨s2, S2, ?_⟩
        have q2 := RunS.from q' (.same sm)
        have e2 : Ext H1 H'' := e'.trans (.same sm)
        cases hbs : ex Φ b1 s2 with
        | nx s3 => rw [hbs] at q2; exact fun σ3 H3 e3 S3 => ⟨s3, S3, e2.trans e3, RunS.from q2 e3⟩
        | ct s3 => rw [hbs] at q2; exact fun σ3 H3 e3 S3 => ⟨s3, S3, e2.trans e3, RunS.from q2 e3⟩
        | brk s3 => rw [hbs] at q2; exact q2
        | ret r s3 => rw [hbs] at q2; exact q2
        | err k w s3 => rw [hbs] at q2; exact q2
        | bad => rw [hbs] at q2; exact q2
    · rw [List.drop_length] at q'
      unfold forL at q'
      exact q'.nx S'
/-! ### a, b = e, f -/
theorem s_par2 {i j : Nat} {x y : Str} {a b : Expr} {l} {px py pt : Pos} {kt k2 pt2} (hc : X.calm = true) (hN : X.N.Nodup) (hi : X.N[i]? = some x) (hj : X.N[j]? = some y) (hij : i ≠ j) (hx : X.env.scope.names.lookup x = some .local) (hy : X.env.scope.names.lookup y = some .local) (ha : PA X [a, b] (tNs C G W (evs Φ l)))
    (hw : swappedStores [.Tuple [.Name x px, .Name y py] kt pt] (.Tuple [a, b] k2 pt2) X.env = pure (some [x, y])) : PS X (.Assign [.Tuple [.Name x px, .Name y py] kt pt] (.Tuple [a, b] k2 pt2) pos) (tS C G W (ex Φ (.par [i, j] l))) := by
  refine ps_imp (ps_par hc hN hi hj hij hx hy (pa_fz ha) hw) fun D σ H ⟨s, S, q⟩ => ?_
  unfold ex at q
  refine ⟨s, S, (RunS.so q).imp fun ds s1 H1 e1 S1 q1 vs r => ?_⟩
  match ds, q1, r with
  | [d1, d2], q1, r =>
    cases r with
    | cons r1 r => cases r with
      | cons r2 r =>
        cases r
        exact ⟨_, _, rfl, RunS.nx q1 ((S1.setVal r1).setVal r2)⟩
  | [], q1, _ => exact False.elim q1
  | [_], q1, _ => exact False.elim q1
  | _ :: _ :: _ :: _, q1, _ => exact False.elim q1
theorem s_par3 {i j k : Nat} {x y z : Str} {a b c : Expr} {l} {px py pz pt : Pos} {kt k2 pt2} (hc : X.calm = true) (hN : X.N.Nodup) (hi : X.N[i]? = some x) (hj : X.N[j]? = some y) (hk : X.N[k]? = some z) (hij : i ≠ j) (hik : i ≠ k) (hjk : j ≠ k) (hx : X.env.scope.names.lookup x = some .local) (hy : X.env.scope.names.lookup y = some .local) (hz : X.env.scope.names.lookup z = some .local) (ha : PA X [a, b, c] (tNs C G W (evs Φ l)))
    (hw : swappedStores [.Tuple [.Name x px, .Name y py, .Name z pz] kt pt] (.Tuple [a, b, c] k2 pt2) X.env = pure (some [x, y, z])) : PS X (.Assign [.Tuple [.Name x px, .Name y py, .Name z pz] kt pt] (.Tuple [a, b, c] k2 pt2) pos) (tS C G W (ex Φ (.par [i, j, k] l))) := by
  refine ps_imp (ps_par3 hc hN hi hj hk hij hik hjk hx hy hz (pa_fz ha) hw) fun D σ H ⟨s, S, q⟩ => ?_
  unfold ex at q
  refine ⟨s, S, (RunS.so q).imp fun ds s1 H1 e1 S1 q1 vs r => ?_⟩
  match ds, q1, r with
  | [d1, d2, d3], q1, r =>
    cases r with
    | cons r1 r => cases r with
      | cons r2 r => cases r with
        | cons r3 r =>
          cases r
          exact ⟨_, _, _, rfl, RunS.nx q1 (((S1.setVal r1).setVal r2).setVal r3)⟩
  | [], q1, _ => exact False.elim q1
  | [_], q1, _ => exact False.elim q1
  | [_, _], q1, _ => exact False.elim q1
  | _ :: _ :: _ :: _ :: _, q1, _ => exact False.elim q1
/-! ### errors -/
/-- what the classes' __init__ promises -/
def spI (K : PySem.W.Frag) : Sp := fun vs H Q _ => ∃ (a c : Addr) (y : V), vs = [.ref a, y] ∧ OexC K c ∧ PySem.W.findIn K (.ref c) "what" = some none ∧ H a = some (exo a c none) ∧ ∀ dx, H dx = none → dx ≠ a → Q .non (upd (upd H dx (exd dx [(("what" : Str), y)])) a (exo a c (some dx)))
theorem pmk_oexN {X : Cx} {CX : CXT} {x : Str} {e : Expr} {es : List Expr} {ta : TA} {p pos : Pos} {C fI : Addr} {k : Nat} {fd : FuncData} {ps : List Str} {sp : Sp} (T : OexC X.K C) (iC : PySem.W.findIn X.K (.ref C) "__init__" = some (some (.ref fI))) (tI : PySem.W.typeIn X.K (.ref fI) = some (.type "function"))
    (F1 : FnOk X.prog X.w X.K X.mg X.base CX k fI fd ps sp) (hr : Room (k + 1) X.A) (hb : Binds X.K fd ps []) (hx : Passes CX X (fun _ _ _ => False)) (hg : Gl X x) (hm : X.mg x = some (.ref C)) (ha : PA X (e :: es) ta)
    (hdb : (x == ("__debug__" : Str)) = false) (he : starEach (e :: es) X.env = (false, eval e X.env) :: starEach es X.env) (hpl : (backTo pos (starEach es X.env)).any (·.1) = false) : L2N.PMk X (.Call (.Name x p) (e :: es) [] pos) (tMkO C sp [] ta) := by
  intro pins s σ H Q I h
  obtain ⟨nm, q, N, bs, bm, sn, sub, ab, col, dd, k0, k1, k2, k3, k5, hC, hbm⟩ := T.cls
  refine wpAny_Call_Name_kw (ld_glob I hg hm ?_ hdb)
  refine PySem.W.callWith_K (h₀ := X.base) I.ok.mod.kin T.kC (thn (ha.run pos pins s σ H _ I h) fun us s1 ⟨vs, H1, I1, r1, hz, q1⟩ => ⟨I1.kIn, ?_⟩) he hpl
  show wpAny _ _ (call (.ref C) us) _ _ _
  obtain ⟨hp, g, dr, tk, os⟩ := s1
  have hsz : hp.objs.size ≤ hp.objs.size + 1 := Nat.le_succ _
  have hq := q1 (hp.objs.size + 1) (I1.hok.fresh hsz)
  have kk : ∀ b o, hp.get? b = some o → ((hp.push (PySem.W.kdv_tup us)).push (PySem.HandSPX.excO C hp.objs.size)).get? b = some o := fun b o e => Heap.get?_push_of_some _ (Heap.get?_push_of_some _ e)
  have hget : ((hp.push (PySem.W.kdv_tup us)).push (PySem.HandSPX.excO C hp.objs.size)).get? (hp.objs.size + 1) = some (PySem.HandSPX.excO C hp.objs.size) := by heap_get
  have I2 : Inv X pins σ (upd H1 (hp.objs.size + 1) (exo (hp.objs.size + 1) C none)) ⟨(hp.push (PySem.W.kdv_tup us)).push (PySem.HandSPX.excO C hp.objs.size), g, dr, tk, os⟩ :=
    I1.laid (t' := tk) (a := hp.objs.size + 1) (o := exo (hp.objs.size + 1) C none) (h' := (hp.push (PySem.W.kdv_tup us)).push (PySem.HandSPX.excO C hp.objs.size)) kk hsz (exo_ok hget)
  have r2 : Vals (V.ref (hp.objs.size + 1) :: (vs ++ [])) (Value.ref (hp.objs.size + 1) :: (us ++ [])) := .cons rfl (r1.append .nil)
  have hl : (Value.ref (hp.objs.size + 1) :: us ++ []).length = ps.length := by
    have e := r2.length
    rw [F1.len _ _ _ _ hq] at e
    exact e.symm
  have hus : us.length ≤ sizeLine := by
    rw [← Paired.length r1, sizeLine_eq]
    omega
  refine wpAny_call (PySem.HandSPX.call_own F.excBase_ValueError (fun Y => PySem.HandSPX.refsVE_contains Y bm hbm) (I1.kIn _ _ hC) (PySem.W.looks_findIn I1.kIn iC) (fun self => PySem.W.bind_fn I1.kIn self tI) hus
    (codeAny_mono (F1.run _ X.stack _ _ ⟨Value.ref (hp.objs.size + 1) :: us, []⟩ (Value.ref (hp.objs.size + 1) :: (us ++ [])) _ _ (fun _ _ _ => False) (hr.make C us []) (I2.env0.make C us []) (show BindsTo _ fd ⟨Value.ref (hp.objs.size + 1) :: us, []⟩ (ps.zip (Value.ref (hp.objs.size + 1) :: (us ++ []))) from hb _ (Value.ref (hp.objs.size + 1) :: us) I2.kIn hl) r2 hq) fun r s' hq' => ?_))
  cases r with
  | error er => exact hx pins σ _ _ er s' I2 hq'
  | ok fl =>
    cases fl with
    | ret u =>
      obtain ⟨v, H2, os2, bare2, un2, hok2, rv, ev, d, fs, ea, ed, hd1, q2⟩ := hq'
      subst ev
      obtain ⟨h2, g2, d2, t2, os'⟩ := s'
      obtain ⟨t0, G, J, kG, ge, hoe, na⟩ := mk_end0 (d2 := d2) (t2 := t2) I1 hsz kk un2 hok2 os2 bare2 ea ed hd1
      exact ⟨rv, hp.objs.size + 1, _, _, ⟨G, g2, d2, t2, os'⟩, _, .ref C, some d, rfl, J, kG, ge, hoe, ⟨rfl, rfl, fun vs hv => by cases hv; rfl⟩, rfl, rfl, na, rfl, bare2, raises_own T.exC T.tyC, q2⟩
    | next => exact False.elim hq'
    | brk => exact False.elim hq'
    | cont => exact False.elim hq'
theorem s_raise {x : Str} {c k : Nat} {fI : Addr} {fd : FuncData} {ps : List Str} {e1} {p p2 : Pos} (hK : X.K = C.K) (hc : X.calm = true) (tk : L2N.Takes X W) (T : OexC C.K (C.cad c)) (wh : PySem.W.findIn C.K (.ref (C.cad c)) "what" = some none) (iC : PySem.W.findIn C.K (.ref (C.cad c)) "__init__" = some (some (.ref fI))) (tI : PySem.W.typeIn C.K (.ref fI) = some (.type "function"))
    (F1 : FnOk X.prog X.w X.K X.mg X.base (L2N.CX X.prog X.w) k fI fd ps (spI C.K)) (hr : Room (k + 1) X.A) (hb : Binds X.K fd ps []) (hg : Gl X x) (hm : X.mg x = some (.ref (C.cad c))) (hdb : (x == ("__debug__" : Str)) = false) (he : PE X e (tA C G W (ev Φ e1))) (hs : nst e = true) :
    PS X (.Raise (some (.Call (.Name x p) [e] [] p2)) none pos) (tS C G W (ex Φ (.rais c e1))) := by
  refine ps_imp (L2N.ps_raise hc tk (pmk_oexN (by rw [hK]; exact T) (by rw [hK]; exact iC) (by rw [hK]; exact tI) F1 hr hb (L2N.passes_call tk fun _ _ _ _ h => False.elim h) hg hm (pa_cons (pe_vl he) pa_nil (nst_each hs)) hdb (nst_each hs) rfl)) fun D σ H ⟨s, S, q⟩ => ?_
  unfold ex at q
  refine ⟨s, S, (RunS.so q).imp fun d s1 H1 e1 S1 q1 y r => ?_⟩
  refine ⟨(by show 1 ≤ 1000; decide), fun a ha => ?_⟩
  refine ⟨a, C.cad c, y, rfl, T, wh, upd_same, fun dx hdx hne => ⟨rfl, dx, [(("what" : Str), y)], upd_same, by rw [upd_ne hne, upd_same], by rw [upd_ne hne] at hdx; exact hdx, ?_⟩⟩
  have hd1 : H1 dx = none := by rw [upd_ne hne] at hdx; exact hdx
  have sm : Same H1 (upd (del (upd (upd (upd H1 a (exo a (C.cad c) none)) dx (exd dx [(("what" : Str), y)])) a (exo a (C.cad c) (some dx))) a) dx (.xd [(("what" : Str), y)])) := fun b u hb => by
    have n1 : b ≠ dx := ne_of_none hb hd1
    have n2 : b ≠ a := ne_of_none hb ha
    rw [upd_ne n1, del_ne n2, upd_ne n2, upd_ne n1, upd_ne n2]
    exact hb
  exact q1 σ dx y _ (.same sm) (S1.same sm) upd_same (Rf.ext (.same sm) d y r)
end
end AM
set_option Elab.async false
set_option linter.all false
set_option maxRecDepth 100000
set_option maxHeartbeats 1000000
/-! AM14: try; the match and the soundness of statements. -/
namespace AM
open PySem PySem.Spec PyProof.Rows L2
section
variable {C : Cn} {G G' : Gd} {s : AS} {σ : St} {H : Hp}
theorem sl_noX {i : Nat} {sv : SV} (h : sl (noX s) i = some sv) : sl s i = some sv ∧ ∀ c w, sv ≠ .exc c w := by
  unfold sl noX at h
  rw [List.getElem?_map] at h
  unfold sl
  cases q : s[i]? with
  | none => rw [q] at h; cases h
  | some o =>
    rw [q] at h
    cases o with
    | none => cases h
    | some x =>
      cases x with
      | val d => cases h; exact ⟨rfl, fun c w z => by cases z⟩
      | own b xs => cases h; exact ⟨rfl, fun c w z => by cases z⟩
      | exc c w => cases h
/-- without caught errors the pins don't matter -/
theorem Sim.noX (S : Sim C G s σ H) (e1 : G'.Hin = G.Hin) (e2 : G'.io = G.io) : Sim C G' (noX s) σ H := by
  refine ⟨by unfold AM.noX; rw [List.length_map]; exact S.len, fun i sv q => ?_, fun i j b b' xs ys q1 q2 q3 => S.dist i j _ _ _ _ (sl_noX q1).1 (sl_noX q2).1 q3, by rw [e1, e2]; exact S.keep, by rw [e1]; exact S.there, S.tabs⟩
  obtain ⟨q, hx⟩ := sl_noX q
  obtain ⟨v, z1, z2⟩ := S.slot i sv q
  refine ⟨v, z1, ?_⟩
  cases sv with
  | val d => exact z2
  | exc c w => exact absurd rfl (hx c w)
  | own b xs =>
    unfold RSlot
    rw [e1, e2]
    exact z2
end
section
variable {X : Cx} {C : Cn} {G : Gd} {W : Wish} {Φ : Calls} {pos : Pos}
/-- the same but for the pins -/
def pinG (G : Gd) (a : Addr) (oe : Obj) : Gd := { G with pn := [(a, oe)] }
/-- a suite's reading: the error is at a -/
def tSu (C : Cn) (G : Gd) (m : AS → SO) : Addr → Value → Option Addr → TS := fun a cls d D σ H => ∀ oe, L2N.Zn cls d oe → (∃ vs, oe.data = .fields vs) → tS C (pinG G a oe) W0 m D σ H
theorem s_try {x n : Str} {c i : Nat} {body suite : List Stmt} {b0 : Stmt} {np pos' : Pos} {b1 h1} (hK : X.K = C.K) (hsub : ∀ k c, PySem.W.exmOne C.K (.ref (C.cad k)) (.ref (C.cad c)) = some (Φ.sub k c)) (hs : X.stack = X.env :: X.outer) (hf : X.env.frame = some X.env.locals) (hN : X.N.Nodup) (hi : X.N[i]? = some n) (hln : X.env.kindOf n = some .local)
    (hc : Names X x (.ref (C.cad c))) (tk : L2N.Takes X W)
    (hb : ∀ (W : WX) (pn : List (Addr × Obj)) (xe : Value → Shared → Prop), L2N.Takes (X.tr pn xe) W → PassesOwn (model X.prog X.w) X.A X.env xe → PSs (X.tr pn xe) body (tS C G W (ex Φ b1)))
    (hsu : ∀ (a : Addr) (oe : Obj) (pn : List (Addr × Obj)), PXN.CtxN oe → (∃ vs, oe.data = .fields vs) → PSs (X.suite a ((a, oe) :: pn)) (b0 :: suite) (tS C (pinG G a oe) W0 (ex Φ h1))) :
    PS X (.Try body [.ExceptHandler (some (.Name x np)) (some n) (b0 :: suite) pos'] [] [] pos) (tS C G W (ex Φ (.tryc b1 c i h1))) := by
  refine ps_imp (L2N.ps_try_as (c := .ref (C.cad c)) (tb := fun W => tS C G W (ex Φ b1)) (ts := tSu C G (ex Φ h1)) (Wout := W) hs hf hN hi hln hc tk hb fun a oe cls d pn hz hd => ?_) fun D σ H ⟨s, S, q⟩ => ⟨s, S, ?_⟩
  · exact ⟨fun pins s' σ H D I hw => (hsu a oe pn hz.2.2 hd).run pins s' σ H D I (hw oe hz hd)⟩
  · unfold ex at q
    cases h : ex Φ b1 s with
    | nx s1 => rw [h] at q; exact q
    | ret r s1 => rw [h] at q; exact q
    | brk s1 => rw [h] at q; exact q
    | ct s1 => rw [h] at q; exact q
    | bad => rw [h] at q; exact q
    | err k w s1 =>
      rw [h] at q
      intro σ' d vw H' e S' hd hw
      refine ⟨Φ.sub k c, by rw [hK]; exact hsub k c, fun hb a ha => ?_, fun hb => ?_⟩
      · dsimp only at q
        rw [hb, if_pos rfl] at q
        intro oe hz hfl
        have S2 : Sim C (pinG G a oe) (noX s1) σ' H' := S'.noX rfl rfl
        have S3 : Sim C (pinG G a oe) ((noX s1).set i (some (.exc k w))) (σ'.set i (some (.ref a))) H' := by
          refine ⟨by rw [List.length_set, List.length_set]; exact S2.len, fun j sv z => ?_, fun j l b b' xs ys q1 q2 q3 => ?_, S2.keep, S2.there, S2.tabs⟩
          · rcases sl_set z with ⟨rfl, z, hl⟩ | ⟨hne, z⟩
            · cases z
              exact ⟨_, List.getElem?_set_self (by rw [← S2.len]; exact hl), a, d, oe, vw, rfl, List.mem_cons_self .., hz.zc, hfl, hd, hw⟩
            · obtain ⟨v, z1, z2⟩ := S2.slot j sv z
              exact ⟨v, by rw [List.getElem?_set_ne (Ne.symm hne)]; exact z1, z2⟩
          · rcases sl_set q1 with ⟨_, q1, _⟩ | ⟨n1, q1⟩
            · cases q1
            · rcases sl_set q2 with ⟨_, q2, _⟩ | ⟨n2, q2⟩
              · cases q2
              · rw [List.getElem?_set_ne (Ne.symm n1), List.getElem?_set_ne (Ne.symm n2)] at q3
                exact S2.dist j l _ _ _ _ q1 q2 q3
        refine ⟨_, S3, ?_⟩
        have back : ∀ {s' : AS} {σ2 : St} {H2 : Hp}, Sim C (pinG G a oe) s' σ2 H2 → Sim C G ((noX s').set i none) (σ2.set i none) H2 := fun {s' σ2 H2} S => (S.noX (G' := G) rfl rfl).drop2 i none
        have backR : ∀ {s' : AS} {σ2 : St} {H2 : Hp}, Sim C (pinG G a oe) s' σ2 H2 → Sim C G ((noX s').set i none) σ2 H2 := fun {s' σ2 H2} S => (S.noX (G' := G) rfl rfl).drop i
        cases hx : ex Φ h1 ((noX s1).set i (some (.exc k w))) with
        | nx s2 => rw [hx] at q; exact fun σ2 H2 e2 S4 => q _ H2 (e.trans e2) (back S4)
        | brk s2 => rw [hx] at q; exact fun σ2 H2 e2 S4 => q _ H2 (e.trans e2) (back S4)
        | ct s2 => rw [hx] at q; exact fun σ2 H2 e2 S4 => q _ H2 (e.trans e2) (back S4)
        | ret r s2 => rw [hx] at q; exact fun σ2 v H2 e2 S4 rr => q _ v H2 (e.trans e2) (backR S4) (by cases r <;> exact rr)
        | err k2 w2 s2 => rw [hx] at q; exact False.elim q
        | bad => rw [hx] at q; exact False.elim q
      · dsimp only at q
        rw [hb, if_neg (by decide)] at q
        exact q σ' d vw H' e S' hd hw
end

/-! ### the match of statements -/
def isSt : Expr → Bool
  | .Starred .. => true
  | _ => false
def nmLoc (T : TX) (line : Nat) : Expr → Option Str
  | .Name id pos => if T.sc.names.lookup id == some .local && pos.line == line then some id else none
  | _ => none
def lineOf (ts : List Expr) : Nat := (ts.head?.map (·.pos.line)).getD 0
def swLen (ts vs : List Expr) : Bool := !(ts.length == 2 || ts.length == 3) || vs.length != ts.length
def swNm (names : List Str) (ts : List Expr) : Bool := names.length != ts.length || names.eraseDups.length != names.length
/-- what swappedStores says -/
def swS (T : TX) (ts vs : List Expr) : Option (Option (List Str)) :=
  if swLen ts vs then some none else if vs.any isSt then some none else
  let names := ts.filterMap (nmLoc T (lineOf ts))
  if swNm names ts then some none else if vs.all (foldedForSure 8) then some none else if vs.all (constantsAlone 8) then none else some (some names)
theorem swS_ok {T : TX} {env : Env} {ts vs : List Expr} {k k2 : Nat} {p p2 : Pos} {o : Option (List Str)} (hs : env.scope = T.sc) (hk : T.sc.kind = .function) (h : swS T ts vs = some o) : swappedStores [.Tuple ts k p] (.Tuple vs k2 p2) env = pure o := by
  obtain ⟨sc, fn, N, inb, calm, up, lam, hot⟩ := T
  obtain rfl : env.scope = sc := hs
  have hb : env.blockKind = .function := by
    unfold Env.blockKind
    rw [show env.scope.kind = ScopeKind.function from hk]
    rfl
  show (if (swLen ts vs || env.blockKind != .function) = true then (pure none : Sem (Option (List Str))) else if vs.any isSt = true then pure none else if swNm (ts.filterMap (nmLoc ⟨env.scope, fn, N, inb, calm, up, lam, hot⟩ (lineOf ts))) ts = true then pure none else if vs.all (foldedForSure 8) = true then pure none
    else if vs.all (constantsAlone 8) = true then (do unsupported "assign.tuple-of-constant-expressions:order-of-the-stores"; pure (some (ts.filterMap (nmLoc ⟨env.scope, fn, N, inb, calm, up, lam, hot⟩ (lineOf ts))))) else pure (some (ts.filterMap (nmLoc ⟨env.scope, fn, N, inb, calm, up, lam, hot⟩ (lineOf ts))))) = pure o
  rw [hb]
  unfold swS at h
  by_cases c1 : swLen ts vs = true
  · rw [if_pos c1] at h
    cases h
    rw [c1]
    rfl
  · rw [if_neg c1] at h
    rw [if_neg (by rw [Bool.not_eq_true] at c1; rw [c1]; decide)]
    by_cases c2 : vs.any isSt = true
    · rw [if_pos c2] at h ⊢
      cases h
      rfl
    · rw [if_neg c2] at h ⊢
      dsimp only at h
      by_cases c3 : swNm (ts.filterMap (nmLoc ⟨env.scope, fn, N, inb, calm, up, lam, hot⟩ (lineOf ts))) ts = true
      · rw [if_pos c3] at h ⊢
        cases h
        rfl
      · rw [if_neg c3] at h ⊢
        by_cases c4 : vs.all (foldedForSure 8) = true
        · rw [if_pos c4] at h ⊢
          cases h
          rfl
        · rw [if_neg c4] at h ⊢
          by_cases c5 : vs.all (constantsAlone 8) = true
          · rw [if_pos c5] at h
            cases h
          · rw [if_neg c5] at h ⊢
            cases h
            rfl

structure MS where
  s : TX → Stmt → Bool
  l : TX → List Stmt → Bool
def MS.of (f : TX → Stmt → Bool) : MS := ⟨f, fun _ _ => false⟩
def nLC : Expr → Bool
  | .ListComp .. => false
  | .SetComp .. => false
  | .DictComp .. => false
  | _ => true
/-- is the comprehension stored ahead of its names' end -/
def swB (T : TX) (x : Str) (p : Pos) : Expr → Bool
  | .ListComp _ _ scope vp => ((T.sc.names.lookup x == some .local) && (p.line == vp.line)) && !(scope.names.any fun (n, k) => n == x && (k == .local || k == .cell))
  | _ => false
def isLC : Expr → Bool
  | .ListComp .. => true
  | _ => false
/-- no exchange of a tuple's stores -/
def swO (T : TX) (tg v : Expr) : Bool := match tg, v with
  | .Tuple ts _ _, .Tuple vs _ _ => decide (swS T ts vs = some none)
  | _, _ => true
def isTp : AM.G → Bool
  | .tp _ => true
  | _ => false
def mts (b : Tb) : S → MS
  | .nil => ⟨fun _ _ => false, fun _ xs => xs.isEmpty⟩
  | .seq a r => ⟨fun _ _ => false, fun T xs => match xs with
    | y :: ys => (mts b a).s T y && (mts b r).l T ys
    | [] => false⟩
  | .asg g e => MS.of fun T st => match st with
    | .Assign [tg] v _ => (mt b e).e T v && (match g with
      | .nm i => (match tg with
        | .Name x p => locB T i x && (!isLC v || !T.hot)
        | _ => false)
      | .tp gs => isTup tg && (mtG false T (.tp gs) tg && swO T tg v)
      | _ => false)
    | _ => false
  | .par is l => MS.of fun T st => match is, st with
    | [i, j], .Assign [.Tuple [.Name x px, .Name y py] k1 p1] (.Tuple [a, c] _ _) _ => T.calm && (decide (i ≠ j) && (decide (T.N[i]? = some x) && (decide (T.N[j]? = some y) && (decide (T.sc.names.lookup x = some .local) && (decide (T.sc.names.lookup y = some .local) && (decide (swS T [.Name x px, .Name y py] [a, c] = some (some [x, y])) && (mt b l).l T [a, c]))))))
    | [i, j, k], .Assign [.Tuple [.Name x px, .Name y py, .Name z pz] k1 p1] (.Tuple [a, c, d] _ _) _ => T.calm && ((decide (i ≠ j) && (decide (i ≠ k) && decide (j ≠ k))) && ((decide (T.N[i]? = some x) && (decide (T.N[j]? = some y) && decide (T.N[k]? = some z))) && ((decide (T.sc.names.lookup x = some .local) && (decide (T.sc.names.lookup y = some .local) && decide (T.sc.names.lookup z = some .local))) && (decide (swS T [.Name x px, .Name y py, .Name z pz] [a, c, d] = some (some [x, y, z])) && (mt b l).l T [a, c, d]))))
    | _, _ => false
  | .setIx i k e => MS.of fun T st => match st with
    | .Assign [.Subscript (.Name x _) kx _] v _ => visB T i x && (plIx kx && ((mt b k).e T kx && (mt b e).e T v))
    | _ => false
  | .aug _ _ _ => MS.of fun _ _ => false
  | .expr e => MS.of fun T st => match st with
    | .Expr v _ => nLC v && (mt b e).e T v
    | _ => false
  | .ret e => MS.of fun T st => match st with
    | .Return (some v) _ => (mt b e).e T v
    | _ => false
  | .retN => MS.of fun _ st => match st with
    | .Return none _ => true
    | _ => false
  | .ifs t a c => MS.of fun T st => match st with
    | .If p q r _ => (mt b t).t T p && ((mts b a).l T q && (mts b c).l T r)
    | _ => false
  | .whl t c => MS.of fun T st => match st with
    | .While p q [] _ => T.calm && ((mt b t).t T p && (mts b c).l T q)
    | _ => false
  | .forr g it c => MS.of fun T st => match st with
    | .For tg iter q [] _ => T.calm && (mtG false T g tg && ((mt b it).i T tg iter && (mts b c).l T q))
    | _ => false
  | .rais c e => MS.of fun T st => match st with
    | .Raise (some (.Call (.Name x _) [y] [] _)) none _ => T.calm && (decide (2 ≤ T.up) && (decide (b.cnm[c]? = some x) && (glB T x && (!dbg x && (nst y && (mt b e).e T y)))))
    | _ => false
  | .tryc a c i h => MS.of fun T st => match st with
    | .Try body [.ExceptHandler (some (.Name x _)) (some n) (b0 :: suite) _] [] [] _ => decide (b.cnm[c]? = some x) && (glB T x && (!dbg x && (decide (T.N[i]? = some n) && (decide (T.sc.names.lookup n = some .local) && ((mts b a).l { T with inb := true, hot := false } body && (mts b h).l { T with inb := false, calm := false, up := 0, hot := true } (b0 :: suite))))))
    | _ => false
  | .pass => MS.of fun _ st => match st with
    | .Pass _ => true
    | .Expr (.Constant (.str _) _ _) _ => true
    | _ => false
  | .brk => MS.of fun _ st => match st with
    | .Break _ => true
    | _ => false
  | .cont => MS.of fun _ st => match st with
    | .Continue _ => true
    | _ => false

/-! ### the world of statements -/
structure Bi where
  fI : Addr
  fd : FuncData
  ps : List Str
structure BsOk (B : Bd) (I : Bi) : Prop where
  b : BdOk B
  exm : ∀ k c, PySem.W.exmOne B.C.K (.ref (B.C.cad k)) (.ref (B.C.cad c)) = some (B.Φ.sub k c)
  oex : ∀ c, OexC B.C.K (B.C.cad c)
  iC : ∀ c, PySem.W.findIn B.C.K (.ref (B.C.cad c)) "__init__" = some (some (.ref I.fI))
  tI : PySem.W.typeIn B.C.K (.ref I.fI) = some (.type "function")
  ini : FnOk B.P B.w B.C.K B.mg B.base (L2N.CX B.P B.w) 1 I.fI I.fd I.ps (spI B.C.K)
  bI : Binds B.C.K I.fd I.ps []
structure SX (B : Bd) (T : TX) (X : Cx) (G : Gd) (W : Wish) : Prop where
  x : XOk B T X G W
  st : X.stack = X.env :: X.outer
  fr : X.env.frame = some X.env.locals
  po : T.calm = true → PassesOwn (model X.prog X.w) X.A X.env X.xe
  kf : T.sc.kind = .function
structure SS (B : Bd) (a : S) : Prop where
  s : ∀ (T : TX) (X : Cx) (G : Gd) (W : Wish) (st : Stmt), SX B T X G W → (mts B.tb a).s T st = true → PS X st (tS B.C G W (ex B.Φ a))
  l : ∀ (T : TX) (X : Cx) (G : Gd) (W : Wish) (st : List Stmt), SX B T X G W → (mts B.tb a).l T st = true → PSs X st (tS B.C G W (ex B.Φ a))
section
variable {B : Bd} {I : Bi} {T : TX} {X : Cx} {G : Gd} {W : Wish}
theorem SS.of {a : S} {f : TX → Stmt → Bool} (hm : mts B.tb a = MS.of f) (h : ∀ (T : TX) (X : Cx) (G : Gd) (W : Wish) (st : Stmt), SX B T X G W → f T st = true → PS X st (tS B.C G W (ex B.Φ a))) : SS B a where
  s := fun T X G W st o q => by rw [hm] at q; exact h T X G W st o q
  l := fun T X G W st o q => by rw [hm] at q; cases q
theorem sw_nLC {v : Expr} {tg : Option Expr} {l : Nat} {env : Env} (h : nLC v = true) : swapsWith v tg l env = pure false := by
  cases v <;> first | rfl | cases h
theorem swSole {tg v : Expr} {l : Nat} {env : Env} (h : ∀ x p, tg ≠ .Name x p) : swapsWithSole [tg] v l env = pure false := by
  show swapsWith v (some tg) l env = pure false
  cases v <;> first | rfl | (cases tg <;> first | rfl | exact absurd rfl (h _ _))
theorem swB_ok {x : Str} {p : Pos} {v : Expr} {l : Nat} {env : Env} (hs : env.scope = T.sc) (hk : T.sc.kind = .function) (h : isLC v = true) : swapsWith v (some (.Name x p)) l env = pure (swB T x p v) := by
  have hb : env.blockKind = .function := by
    unfold Env.blockKind
    rw [hs, hk]
    rfl
  cases v <;> try (cases h)
  unfold swapsWith swB
  dsimp only
  rw [hb]
  unfold Env.kindOf
  rw [hs]
  rfl
theorem mt_isLC {e : E} {v : Expr} {b : Tb} (h : (mt b e).e T v = true) (hl : isLC v = true) : ∃ el g it ts own, e = .comp el g it ts own := by
  cases v <;> try (cases hl)
  cases e <;> first
    | exact ⟨_, _, _, _, _, rfl⟩
    | (unfold mt at h; cases h)
    | (rename_i d; unfold mt at h; cases d <;> cases h)
theorem mt_nLC {e : E} {v : Expr} {b : Tb} (h : (mt b e).e T v = true) (hl : isLC v = false) : nLC v = true := by
  cases v <;> first
    | rfl
    | (cases hl; done)
    | (exfalso; cases e <;> first
      | (unfold mt at h; cases h)
      | (rename_i d; unfold mt at h; cases d <;> cases h))

/-! ### soundness of statements -/
theorem XOk.tr (o : XOk B T X G W) {W' : Wish} {pn : List (Addr × Obj)} {xe : Value → Shared → Prop} (tk : L2N.Takes (X.tr pn xe) W') : XOk B { T with inb := true, hot := false } (X.tr pn xe) G W' where
  P := o.P
  w := o.w
  K := o.K
  mg := o.mg
  base := o.base
  N := o.N
  nd := o.nd
  sc := o.sc
  fn := o.fn
  calm := o.calm
  room := o.room
  un := o.un
  tk := tk
  hot := fun h => by cases h
  gok := o.gok
  pn := fun h => by cases h
  h0 := o.h0
  lam := o.lam
theorem XOk.suite (o : XOk B T X G W) {a : Addr} {oe : Obj} {pn : List (Addr × Obj)} (hc : PXN.CtxN oe) (hf : ∃ vs, oe.data = .fields vs) : XOk B { T with inb := false, calm := false, up := 0, hot := true } (X.suite a ((a, oe) :: pn)) (pinG G a oe) W0 where
  P := o.P
  w := o.w
  K := o.K
  mg := o.mg
  base := o.base
  N := o.N
  nd := o.nd
  sc := o.sc
  fn := o.fn
  calm := fun h => by cases h
  room := fun h => by cases h
  un := o.un
  tk := takes0N
  hot := fun _ => ⟨(a, oe), ⟨rfl, let ⟨vs, e⟩ := hf; ⟨vs, e, hc vs e⟩⟩, List.mem_cons_self ..⟩
  gok := o.gok
  pn := fun _ p hp => by
    have hp : p ∈ [(a, oe)] := hp
    rw [List.mem_singleton.mp hp]
    exact List.mem_cons_self ..
  h0 := o.h0
  lam := o.lam
theorem SX.tr (o : SX B T X G W) {W' : Wish} {pn : List (Addr × Obj)} {xe : Value → Shared → Prop} (tk : L2N.Takes (X.tr pn xe) W') (po : PassesOwn (model X.prog X.w) X.A X.env xe) : SX B { T with inb := true, hot := false } (X.tr pn xe) G W' := ⟨o.x.tr tk, o.st, o.fr, fun _ => po, o.kf⟩
theorem SX.suite (o : SX B T X G W) {a : Addr} {oe : Obj} {pn : List (Addr × Obj)} (hc : PXN.CtxN oe) (hf : ∃ vs, oe.data = .fields vs) : SX B { T with inb := false, calm := false, up := 0, hot := true } (X.suite a ((a, oe) :: pn)) (pinG G a oe) W0 := ⟨o.x.suite hc hf, o.st, o.fr, (fun h => Bool.noConfusion h), o.kf⟩
theorem ss_setLc (ok : BsOk B I) {i : Nat} {el it ts : E} {g : AM.G} {own : List Nat} {x : Str} {p pos : Pos} {v : Expr} (o : SX B T X G W) (hT : T.hot = false) (q : (mt B.tb (.comp el g it ts own)).e T v = true) (hl : locB T i x = true) (hsw : swB T x p v = true) :
    PS X (.Assign [.Name x p] v pos) (tS B.C G W (ex B.Φ (.asg (.nm i) (.comp el g it ts own)))) := by
  obtain ⟨l1, l2, l3⟩ := loc_of o.x hl
  unfold mt at q
  cases v <;> try (cases q)
  rename_i elt gens scope vp
  have hs := swB_ok (l := pos.line) (p := p) (x := x) o.x.sc o.kf (show isLC (.ListComp elt gens scope vp) = true from rfl)
  rw [hsw] at hs
  match gens, q with
  | [⟨tg, iter, ifs, a⟩], q =>
    have q : (decide (a = 0) && (blkC T.N T.sc scope (ownOf T.N own) && ((gvs g).all (fun j => decide (j ∈ own)) && ((match T.hot with
      | true => (mt B.tb it).sq && (nset iter && (mt B.tb it).e T iter)
      | false => T.calm && (mt B.tb it).i T tg iter) && (mtG T.hot (blkT T scope) g tg && ((mt B.tb ts).ts (blkT T scope) ifs && (mt B.tb el).e (blkT T scope) elt)))))) = true := q
    simp only [Bool.and_eq_true, decide_eq_true_eq] at q
    obtain ⟨rfl, h2, h3, h4, h5, h6, h7⟩ := q
    rw [hT] at h4 h5
    have h4 : (T.calm && (mt B.tb it).i T tg iter) = true := h4
    rw [Bool.and_eq_true] at h4
    obtain ⟨h1, h4⟩ := h4
    have hown := ownOf_snd (N := T.N) own
    obtain ⟨pi, ns⟩ := (se ok.b it).i false T X G W tg iter o.x h4
    have hyl : X.env.scope.names.lookup x = some .local := by
      rw [o.x.sc]
      unfold swB at hsw
      simp only [Bool.and_eq_true, beq_iff_eq] at hsw
      exact hsw.1.1
    have z := ps_setLc (i := i) (y := x) (py := p) (elt := elt) (tg := tg) (iter := iter) (ifs := ifs) (scope := scope) (own := ownOf T.N own) (pos := vp) (spos := pos) (wi := tI B.C G W (evIt B.Φ false it)) (g := cG B.C.K g) (tt := tBoG B.C (tsts B.Φ ts)) (te := tDG B.C (vl (ev B.Φ el))) (o.x.calm h1) (by rw [o.x.N]; exact o.x.nd) l1 hyl hs pi (by rw [o.x.N, o.x.sc]; exact blkOk_by h2)
      (fun s H c cl fp => by
        have z := mtG_ok (h := false) (o.x.blk o.x.gok s H scope c cl fp) (fun z => by cases z) g tg h5
        rw [← o.x.K]
        exact z)
      (fun s H c cl fp => ⟨fun pins s' σ H' Q I ⟨G', gk, hw⟩ => ((se ok.b ts).ts _ _ G' W0 ifs (o.x.blk gk s H scope c cl fp) h6).run pins s' σ H' Q I hw⟩)
      (fun s H c cl fp => ⟨fun pins s' σ H' Q I ⟨G', gk, hw⟩ => (pe_vl ((se ok.b el).v _ _ G' W0 elt (o.x.blk gk s H scope c cl fp) h7)).run pins s' σ H' Q I hw⟩)
      (nset_ok ns)
    refine ps_imp (PS.lk z) fun D σ H q => ?_
    have q1 := asg_run q
    rw [hown]
    exact tLc_run o.x.gok (fun j hj => of_decide_eq_true (List.all_eq_true.mp h3 j hj)) q1
  | [], q => cases q
  | ⟨_, _, _, _⟩ :: _ :: _, q =>
    have q : false = true := q
    cases q
theorem ss_asg (ok : BsOk B I) (g : AM.G) (e : E) : SS B (.asg g e) := by
  refine SS.of (by unfold mts; rfl) fun T X G W st o q => ?_
  split at q
  · rename_i tg v pos
    rw [Bool.and_eq_true] at q
    obtain ⟨q1, q2⟩ := q
    cases g with
    | nm i =>
      dsimp only at q2
      split at q2
      · rename_i x p
        rw [Bool.and_eq_true] at q2
        obtain ⟨h1, h2⟩ := q2
        obtain ⟨l1, l2, l3⟩ := loc_of o.x h1
        cases hl : isLC v with
        | false => exact s_set (by rw [o.x.N]; exact o.x.nd) l1 l2 l3 ((se ok.b e).v T X G W v o.x q1) (sw_nLC (mt_nLC q1 hl))
        | true =>
          cases hsw : swB T x p v with
          | false => exact s_set (by rw [o.x.N]; exact o.x.nd) l1 l2 l3 ((se ok.b e).v T X G W v o.x q1) (by rw [swB_ok (x := x) (p := p) o.x.sc o.kf hl, hsw])
          | true =>
            obtain ⟨el, g, it, ts, own, rfl⟩ := mt_isLC q1 hl
            exact ss_setLc ok o (by rw [hl] at h2; simpa using h2) q1 h1 hsw
      · cases q2
    | tp gs =>
      rw [Bool.and_eq_true, Bool.and_eq_true] at q2
      obtain ⟨h1, h2, h3⟩ := q2
      obtain ⟨es, k, p, rfl⟩ := isTup_of h1
      refine s_asg o.x.K (mtG_ok (h := false) o.x (fun z => by cases z) (.tp gs) _ h2) (fun i z => by cases z) ((se ok.b e).v T X G W v o.x q1) (swSole fun x p z => by cases z) ?_ rfl
      unfold swO at h3
      cases v <;> first
        | rfl
        | exact swS_ok o.x.sc o.kf (of_decide_eq_true h3)
    | nil => cases q2
    | cons a b => cases q2
  · cases q
theorem ss_par (ok : BsOk B I) (is : List Nat) (l : E) : SS B (.par is l) := by
  refine SS.of (by unfold mts; rfl) fun T X G W st o q => ?_
  split at q
  · simp only [Bool.and_eq_true, decide_eq_true_eq] at q
    obtain ⟨h1, h2, h3, h4, h5, h6, h7, h8⟩ := q
    exact s_par2 (o.x.calm h1) (by rw [o.x.N]; exact o.x.nd) (by rw [o.x.N]; exact h3) (by rw [o.x.N]; exact h4) h2 (by rw [o.x.sc]; exact h5) (by rw [o.x.sc]; exact h6) ((se ok.b l).l T X G W _ o.x h8) (swS_ok o.x.sc o.kf h7)
  · simp only [Bool.and_eq_true, decide_eq_true_eq] at q
    obtain ⟨h1, ⟨a1, a2, a3⟩, ⟨b1, b2, b3⟩, ⟨c1, c2, c3⟩, h7, h8⟩ := q
    exact s_par3 (o.x.calm h1) (by rw [o.x.N]; exact o.x.nd) (by rw [o.x.N]; exact b1) (by rw [o.x.N]; exact b2) (by rw [o.x.N]; exact b3) a1 a2 a3 (by rw [o.x.sc]; exact c1) (by rw [o.x.sc]; exact c2) (by rw [o.x.sc]; exact c3) ((se ok.b l).l T X G W _ o.x h8) (swS_ok o.x.sc o.kf h7)
  · cases q
theorem ss_setIx (ok : BsOk B I) (i : Nat) (k e : E) : SS B (.setIx i k e) := by
  refine SS.of (by unfold mts; rfl) fun T X G W st o q => ?_
  split at q
  · rename_i x p kx p2 v pos
    simp only [Bool.and_eq_true] at q
    obtain ⟨h1, h2, h3, h4⟩ := q
    obtain ⟨v1, v2, v3, v4⟩ := vis_of o.x h1
    exact s_setIx v1 v2 v3 v4 ((se ok.b k).v T X G W _ o.x h3) ((se ok.b e).v T X G W _ o.x h4) h2 (swSole fun x p z => by cases z) (by cases v <;> rfl)
  · cases q
theorem ss_expr (ok : BsOk B I) (e : E) : SS B (.expr e) := by
  refine SS.of (by unfold mts; rfl) fun T X G W st o q => ?_
  split at q
  · rw [Bool.and_eq_true] at q
    exact s_expr ((se ok.b e).v T X G W _ o.x q.2) (sw_nLC q.1)
  · cases q
theorem ss_ret (ok : BsOk B I) (e : E) : SS B (.ret e) := by
  refine SS.of (by unfold mts; rfl) fun T X G W st o q => ?_
  split at q
  · exact s_ret ((se ok.b e).v T X G W _ o.x q)
  · cases q
theorem ss_retN : SS B .retN := by
  refine SS.of (by unfold mts; rfl) fun T X G W st o q => ?_
  split at q
  · exact s_retN
  · cases q
theorem ss_ifs (ok : BsOk B I) (t : E) {a c : S} (ha : SS B a) (hc : SS B c) : SS B (.ifs t a c) := by
  refine SS.of (by unfold mts; rfl) fun T X G W st o q => ?_
  split at q
  · simp only [Bool.and_eq_true] at q
    exact s_if ((se ok.b t).t T X G W _ o.x q.1) (ha.l T X G W _ o q.2.1) (hc.l T X G W _ o q.2.2)
  · cases q
theorem ss_whl (ok : BsOk B I) (t : E) {c : S} (hc : SS B c) : SS B (.whl t c) := by
  refine SS.of (by unfold mts; rfl) fun T X G W st o q => ?_
  split at q
  · simp only [Bool.and_eq_true] at q
    exact s_while (o.po q.1) ((se ok.b t).t T X G W _ o.x q.2.1) (hc.l T X G W _ o q.2.2)
  · cases q
theorem ss_forr (ok : BsOk B I) (g : AM.G) (it : E) {c : S} (hc : SS B c) : SS B (.forr g it c) := by
  refine SS.of (by unfold mts; rfl) fun T X G W st o q => ?_
  split at q
  · simp only [Bool.and_eq_true] at q
    obtain ⟨h1, h2, h3, h4⟩ := q
    obtain ⟨pi, ns⟩ := (se ok.b it).i true T X G W _ _ o.x h3
    exact s_for o.x.K (o.po h1) (o.x.calm h1) pi (mtG_ok (h := false) o.x (fun z => by cases z) g _ h2) (hc.l T X G W _ o h4) (nset_ok ns)
  · cases q
theorem ss_rais (ok : BsOk B I) (c : Nat) (e : E) : SS B (.rais c e) := by
  refine SS.of (by unfold mts; rfl) fun T X G W st o q => ?_
  split at q
  · simp only [Bool.and_eq_true, decide_eq_true_eq, Bool.not_eq_true'] at q
    obtain ⟨h1, h2, h3, h4, h5, h6, h7⟩ := q
    have F : FnOk X.prog X.w X.K X.mg X.base (L2N.CX X.prog X.w) 1 I.fI I.fd I.ps (spI B.C.K) := by
      rw [o.x.P, o.x.w, o.x.K, o.x.mg, o.x.base]; exact ok.ini
    exact s_raise o.x.K (o.x.calm h1) o.x.tk (ok.oex c) (ok.b.xc c).wh (ok.iC c) ok.tI F (Room.le (o.x.room h1) (by omega)) (by rw [o.x.K]; exact ok.bI) (gl_of o.x h4) (by rw [o.x.mg]; exact ok.b.cl c _ h3) h5 ((se ok.b e).v T X G W _ o.x h7) h6
  · cases q
theorem ss_tryc (ok : BsOk B I) (c i : Nat) {a h : S} (ha : SS B a) (hh : SS B h) : SS B (.tryc a c i h) := by
  refine SS.of (by unfold mts; rfl) fun T X G W st o q => ?_
  split at q
  · simp only [Bool.and_eq_true, decide_eq_true_eq, Bool.not_eq_true'] at q
    obtain ⟨h1, h2, h3, h4, h5, h6, h7⟩ := q
    exact s_try o.x.K ok.exm o.st o.fr (by rw [o.x.N]; exact o.x.nd) (by rw [o.x.N]; exact h4) (by show X.env.scope.names.lookup _ = _; rw [o.x.sc]; exact h5) ⟨gl_of o.x h2, h3, .inl (by rw [o.x.mg]; exact ok.b.cl c _ h1)⟩ o.x.tk (fun W' pn xe tk po => ha.l _ _ G W' _ (o.tr tk po) h6) (fun a oe pn hc hf => hh.l _ _ _ W0 _ (o.suite hc hf) h7)
  · cases q
theorem ss_pass : SS B .pass := by
  refine SS.of (by unfold mts; rfl) fun T X G W st o q => ?_
  split at q
  · exact s_pass
  · exact s_doc
  · cases q
theorem ss_brk : SS B .brk := by
  refine SS.of (by unfold mts; rfl) fun T X G W st o q => ?_
  split at q
  · exact s_brk
  · cases q
theorem ss_cont : SS B .cont := by
  refine SS.of (by unfold mts; rfl) fun T X G W st o q => ?_
  split at q
  · exact s_cont
  · cases q
theorem ss_nil : SS B .nil where
  s := fun T X G W st o q => by unfold mts at q; cases q
  l := fun T X G W st o q => by
    unfold mts at q
    cases st with
    | nil => exact s_nil
    | cons y ys => cases q
theorem ss_seq {a r : S} (ha : SS B a) (hr : SS B r) : SS B (.seq a r) where
  s := fun T X G W st o q => by unfold mts at q; cases q
  l := fun T X G W st o q => by
    unfold mts at q
    cases st with
    | nil => cases q
    | cons y ys =>
      have q : ((mts B.tb a).s T y && (mts B.tb r).l T ys) = true := q
      rw [Bool.and_eq_true] at q
      exact s_seq (ha.s T X G W _ o q.1) (hr.l T X G W _ o q.2)
theorem ss (ok : BsOk B I) (a : S) : SS B a := by
  induction a with
  | nil => exact ss_nil
  | seq a r ha hr => exact ss_seq ha hr
  | asg g e => exact ss_asg ok g e
  | par is l => exact ss_par ok is l
  | setIx i k e => exact ss_setIx ok i k e
  | aug i o e => exact SS.of (by unfold mts; rfl) fun T X G W st o q => by cases q
  | expr e => exact ss_expr ok e
  | ret e => exact ss_ret ok e
  | retN => exact ss_retN
  | ifs t a c ha hc => exact ss_ifs ok t ha hc
  | whl t c hc => exact ss_whl ok t hc
  | forr g it c hc => exact ss_forr ok g it hc
  | rais c e => exact ss_rais ok c e
  | tryc a c i h ha hh => exact ss_tryc ok c i ha hh
  | pass => exact ss_pass
  | brk => exact ss_brk
  | cont => exact ss_cont
end
end AM
set_option Elab.async false
set_option linter.all false
set_option maxRecDepth 100000
set_option maxHeartbeats 1000000
/-! AM15: defs. -/
namespace AM
open PySem PySem.Spec PyProof.Rows L2

/-! ### a def's entry -/
def ioG : Nat → List V → List FArg → List (Nat × Addr)
  | k, _ :: vs, .val _ :: fs => ioG (k + 1) vs fs
  | k, .ref a :: vs, .io _ :: fs => (k, a) :: ioG (k + 1) vs fs
  | k, _ :: vs, .io _ :: fs => ioG (k + 1) vs fs
  | _, _, _ => []
theorem ioG_snd : ∀ {k : Nat} {vs : List V} {fs : List FArg}, (ioG k vs fs).map (·.2) = ioA vs fs
  | k, [], [] => by simp [ioG, ioA]
  | k, [], f :: fs => by cases f <;> simp [ioG, ioA]
  | k, v :: vs, [] => by cases v <;> simp [ioG, ioA]
  | k, v :: vs, .val d :: fs => by cases v <;> (simp only [ioG, ioA]; exact ioG_snd)
  | k, v :: vs, .io xs :: fs => by cases v <;> first | (simp only [ioG, ioA]; exact ioG_snd) | (simp only [ioG, ioA, List.map_cons]; rw [ioG_snd])
theorem ioG_at {a : Addr} : ∀ {k i : Nat} {vs : List V} {fs : List FArg}, (i, a) ∈ ioG k vs fs → ∃ j, i = k + j ∧ vs[j]? = some (.ref a)
  | k, i, [], [], h => by simp [ioG] at h
  | k, i, [], f :: fs, h => by cases f <;> simp [ioG] at h
  | k, i, v :: vs, [], h => by cases v <;> simp [ioG] at h
  | k, i, v :: vs, .val d :: fs, h => by
    have h : (i, a) ∈ ioG (k + 1) vs fs := by cases v <;> simpa only [ioG] using h
    obtain ⟨j, e, hj⟩ := ioG_at h
    exact ⟨j + 1, by omega, hj⟩
  | k, i, v :: vs, .io xs :: fs, h => by
    have h : (∃ b, v = .ref b ∧ (i, a) = (k, b)) ∨ (i, a) ∈ ioG (k + 1) vs fs := by
      cases v <;> first
        | exact .inr (by simpa only [ioG] using h)
        | (simp only [ioG] at h; rcases List.mem_cons.mp h with z | z <;> first | exact .inl ⟨_, rfl, z⟩ | exact .inr z)
    rcases h with ⟨b, rfl, e⟩ | h
    · cases e
      exact ⟨0, rfl, rfl⟩
    · obtain ⟨j, e, hj⟩ := ioG_at h
      exact ⟨j + 1, by omega, hj⟩
theorem ioG_one {k i : Nat} {a b : Addr} {vs : List V} {fs : List FArg} (h1 : (i, a) ∈ ioG k vs fs) (h2 : (i, b) ∈ ioG k vs fs) : a = b := by
  obtain ⟨j, e1, h1⟩ := ioG_at h1
  obtain ⟨l, e2, h2⟩ := ioG_at h2
  have : j = l := by omega
  subst this
  rw [h1] at h2
  exact V.ref.inj (Option.some.inj h2)
theorem snd_one {l : List (Nat × Addr)} {i j : Nat} {a : Addr} (nd : (l.map (·.2)).Nodup) (h1 : (i, a) ∈ l) (h2 : (j, a) ∈ l) : i = j := by
  induction l with
  | nil => cases h1
  | cons p l ih =>
    obtain ⟨n1, n2⟩ := List.nodup_cons.mp (show (p.2 :: l.map (·.2)).Nodup from nd)
    rcases List.mem_cons.mp h1 with e1 | m1 <;> rcases List.mem_cons.mp h2 with e2 | m2
    · rw [← e1] at e2; exact (congrArg Prod.fst e2).symm
    · exact absurd (List.mem_map.mpr ⟨_, m2, by rw [← e1]⟩) n1
    · exact absurd (List.mem_map.mpr ⟨_, m1, by rw [← e2]⟩) n1
    · exact ih n2 m1 m2
def enG (H : Hp) (vs : List V) (fs : List FArg) : Gd := ⟨H, ioG 0 vs fs, []⟩
theorem rargs_len {C : Cn} {H : Hp} : ∀ {vs : List V} {fs : List FArg}, RArgs C H vs fs → vs.length = fs.length
  | [], [], _ => rfl
  | v :: vs, .val d :: fs, h => congrArg (· + 1) (rargs_len h.2)
  | v :: vs, .io xs :: fs, h => congrArg (· + 1) (rargs_len h.2)
  | [], f :: fs, h => by cases f <;> exact h.elim
  | _ :: _, [], h => h.elim
/-- each argument at its slot -/
theorem rargs_at {C : Cn} {H : Hp} {f : FArg} : ∀ {k i : Nat} {vs : List V} {fs : List FArg}, RArgs C H vs fs → fs[i]? = some f → ∃ v, vs[i]? = some v ∧ (match f with
    | .val d => Rf C.K H v d
    | .io xs => ∃ a ws, v = .ref a ∧ H a = some (.lst ws) ∧ Rfs C.K H ws xs ∧ (k + i, a) ∈ ioG k vs fs)
  | k, 0, v :: vs, .val d :: fs, h, e => by
    simp only [List.getElem?_cons_zero, Option.some.injEq] at e
    subst e
    exact ⟨v, rfl, h.1⟩
  | k, 0, v :: vs, .io xs :: fs, h, e => by
    simp only [List.getElem?_cons_zero, Option.some.injEq] at e
    subst e
    obtain ⟨⟨a, ws, rfl, h1, h2⟩, _⟩ := h
    exact ⟨_, rfl, a, ws, rfl, h1, h2, by simp [ioG]⟩
  | k, i + 1, v :: vs, .val d :: fs, h, e => by
    obtain ⟨w, h1, h2⟩ := rargs_at (k := k + 1) (i := i) h.2 (by simpa using e)
    refine ⟨w, by simpa using h1, ?_⟩
    cases f with
    | val d => exact h2
    | io xs =>
      obtain ⟨a, ws, e1, e2, e3, e4⟩ := h2
      refine ⟨a, ws, e1, e2, e3, ?_⟩
      rw [show k + (i + 1) = k + 1 + i by omega]
      cases v <;> simpa only [ioG] using e4
  | k, i + 1, v :: vs, .io xs :: fs, h, e => by
    obtain ⟨w, h1, h2⟩ := rargs_at (k := k + 1) (i := i) h.2 (by simpa using e)
    refine ⟨w, by simpa using h1, ?_⟩
    cases f with
    | val d => exact h2
    | io ys =>
      obtain ⟨a, ws, e1, e2, e3, e4⟩ := h2
      refine ⟨a, ws, e1, e2, e3, ?_⟩
      rw [show k + (i + 1) = k + 1 + i by omega]
      cases v <;> first | (simpa only [ioG] using e4) | (simp only [ioG]; exact List.mem_cons_of_mem _ e4)
  | k, i, [], f :: fs, h, e => by cases f <;> exact h.elim
  | k, i, v :: vs, [], h, e => h.elim
  | k, i, [], [], h, e => by simp at e
theorem startA_at {ns : Nat} {fs : List FArg} {i : Nat} {sv : SV} (h : sl (startA ns fs) i = some sv) : ∃ f, fs[i]? = some f ∧ fargS f = some sv := by
  unfold sl startA at h
  by_cases hi : i < fs.length
  · rw [List.getElem?_append_left (by rw [List.length_map]; exact hi), List.getElem?_map] at h
    cases q : fs[i]? with
    | none => rw [q] at h; cases h
    | some f => rw [q] at h; exact ⟨f, rfl, h⟩
  · rw [List.getElem?_append_right (by rw [List.length_map]; omega)] at h
    rw [List.getElem?_replicate] at h
    split at h <;> cases h
theorem start_at {N : List Str} {vs : List V} {i : Nat} {v : V} (h : vs[i]? = some v) : (L2.start N vs)[i]? = some (some v) := by
  have hi : i < vs.length := (List.getElem?_eq_some_iff.mp h).1
  unfold L2.start
  rw [List.getElem?_append_left (by rw [List.length_map]; exact hi), List.getElem?_map, h]
  rfl
theorem sim_start {C : Cn} {H : Hp} {vs : List V} {fs : List FArg} {N : List Str} {ns : Nat} (ra : RArgs C H vs fs) (nd : (ioA vs fs).Nodup) (tb : LamX.Tabs C.T H) (hN : N.length = ns) (hle : fs.length ≤ ns) : Sim C (enG H vs fs) (startA ns fs) (L2.start N vs) H := by
  have hl := rargs_len ra
  refine ⟨?_, fun i sv q => ?_, fun i j b b' xs ys q1 q2 q3 => ?_, fun a o h _ _ => h, fun a o h => ⟨o, h, fun n => n⟩, tb⟩
  · unfold startA L2.start
    simp
    omega
  · obtain ⟨f, e1, e2⟩ := startA_at q
    obtain ⟨v, h1, h2⟩ := rargs_at (k := 0) ra e1
    refine ⟨v, start_at h1, ?_⟩
    cases f with
    | val d => cases e2; exact h2
    | io xs =>
      cases e2
      obtain ⟨a, ws, rfl, h3, h4, h5⟩ := h2
      rw [Nat.zero_add] at h5
      exact ⟨a, ws, rfl, h3, h4, by rw [if_pos rfl]; exact h5⟩
  · obtain ⟨f, e1, e2⟩ := startA_at q1
    obtain ⟨f', e1', e2'⟩ := startA_at q2
    obtain ⟨v, h1, h2⟩ := rargs_at (k := 0) ra e1
    obtain ⟨v', h1', h2'⟩ := rargs_at (k := 0) ra e1'
    rw [start_at h1, start_at h1'] at q3
    cases q3
    cases f with
    | val d => cases e2
    | io zs =>
      cases f' with
      | val d => cases e2'
      | io zs' =>
        obtain ⟨a, ws, rfl, _, _, h5⟩ := h2
        obtain ⟨a', ws', e3, _, _, h5'⟩ := h2'
        cases e3
        rw [Nat.zero_add] at h5 h5'
        exact snd_one (by rw [ioG_snd]; exact nd) h5 h5'
theorem gok_start {C : Cn} {H : Hp} {vs : List V} {fs : List FArg} (ra : RArgs C H vs fs) : GOk (enG H vs fs) := by
  have gen : ∀ {k : Nat} {vs : List V} {fs : List FArg}, RArgs C H vs fs → ∀ p ∈ ioG k vs fs, ∃ o, H p.2 = some o := by
    intro k vs
    induction vs generalizing k with
    | nil => intro fs h p hp; cases fs with
      | nil => simp [ioG] at hp
      | cons f fs => cases f <;> exact h.elim
    | cons v vs ih => intro fs h p hp; cases fs with
      | nil => exact h.elim
      | cons f fs => cases f with
        | val d => exact ih h.2 p (by cases v <;> simpa only [ioG] using hp)
        | io xs =>
          obtain ⟨⟨a, ws, rfl, h1, h2⟩, h3⟩ := h
          simp only [ioG] at hp
          rcases List.mem_cons.mp hp with rfl | hp
          · exact ⟨_, h1⟩
          · exact ih h3 p hp
  exact gen ra

/-! ### a def's end -/
theorem ios_ok {C : Cn} {G : Gd} {S : AS} {σ : St} {H : Hp} (Sm : Sim C G S σ H) (one : ∀ i a b, (i, a) ∈ G.io → (i, b) ∈ G.io → a = b) : ∀ {vs : List V} {fs : List FArg} {s : AS} {k : Nat} {ios : List (List PyData)}, vs.length = fs.length →
    (∀ p ∈ ioG k vs fs, p ∈ G.io) → (∀ (j : Nat) (sv : SV), s[j]? = some (some sv) → sl S (k + j) = some sv) → (∀ (j : Nat) (xs : List PyData), fs[j]? = some (.io xs) → ∃ a, vs[j]? = some (.ref a)) → iosOf fs s = some ios → RIos C H (ioA vs fs) ios
  | [], [], s, k, ios, _, _, _, _, h => by
    unfold iosOf at h
    cases h
    exact True.intro
  | v :: vs, .val d :: fs, [], k, ios, _, _, _, _, h => by unfold iosOf at h; cases h
  | v :: vs, .val d :: fs, x :: s, k, ios, hl, hm, hs, hr, h => by
    unfold iosOf at h
    have z := ios_ok Sm one (vs := vs) (fs := fs) (s := s) (k := k + 1) (by simpa using hl) (fun p hp => hm p (by cases v <;> simpa only [ioG] using hp)) (fun j sv q => by rw [show k + 1 + j = k + (j + 1) by omega]; exact hs (j + 1) sv (by simpa using q)) (fun j xs q => by simpa using hr (j + 1) xs (by simpa using q)) h
    cases v <;> exact z
  | v :: vs, .io ys :: fs, [], k, ios, _, _, _, _, h => by unfold iosOf at h; cases h
  | v :: vs, .io ys :: fs, x :: s, k, ios, hl, hm, hs, hr, h => by
    obtain ⟨a, ha⟩ := hr 0 ys rfl
    simp only [List.getElem?_cons_zero, Option.some.injEq] at ha
    subst ha
    cases x with
    | none => unfold iosOf at h; cases h
    | some sv =>
      cases sv with
      | val d => unfold iosOf at h; cases h
      | exc c w => unfold iosOf at h; cases h
      | own b xs =>
        cases b with
        | false => unfold iosOf at h; cases h
        | true =>
          unfold iosOf at h
          obtain ⟨ios', h1, rfl⟩ := Option.map_eq_some_iff.mp h
          have z := ios_ok Sm one (vs := vs) (fs := fs) (s := s) (k := k + 1) (by simpa using hl) (fun p hp => hm p (by simp only [ioG]; exact List.mem_cons_of_mem _ hp)) (fun j sv q => by rw [show k + 1 + j = k + (j + 1) by omega]; exact hs (j + 1) sv (by simpa using q)) (fun j xs q => by simpa using hr (j + 1) xs (by simpa using q)) h1
          have q := hs 0 _ rfl
          obtain ⟨v', z1, c, ws, rfl, e1, e2, e3⟩ := Sm.slot _ _ q
          have e3 : (k + 0, c) ∈ G.io := by simpa using e3
          have e4 : (k, a) ∈ G.io := hm _ (by simp only [ioG]; exact List.mem_cons_self ..)
          rw [Nat.add_zero] at e3
          have := one k a c e4 e3
          subst this
          exact ⟨⟨ws, e1, e2⟩, z⟩
  | [], _ :: _, _, _, _, hl, _, _, _, _ => by simp at hl
  | _ :: _, [], _, _, _, hl, _, _, _, _ => by simp at hl
theorem fn_run {C : Cn} {Φ : Calls} {fd : FDef} {vs : List V} {fs : List FArg} {H : Hp} {Q : VK} {E : XK} (ra : RArgs C H vs fs) (h : spR C H (ioA vs fs) Q E (runF Φ fd fs)) :
    RunS C (enG H vs fs) (WL E) { nx := fun _ H' => Q .non H', rt := Q } H (ex Φ fd.body (startA fd.ns fs)) := by
  unfold runF at h
  by_cases hl : fs.length = fd.np
  · rw [if_pos hl] at h
    have kp : ∀ {s : AS} {σ : St} {H' : Hp}, Sim C (enG H vs fs) s σ H' → Kp H H' (ioA vs fs) := fun {s σ H'} S => ⟨fun a o q m n => S.keep a o q (by show a ∉ (ioG 0 vs fs).map (·.2); rw [ioG_snd]; exact m) n, S.there⟩
    have ios : ∀ {s : AS} {σ : St} {H' : Hp} {ios : List (List PyData)}, Sim C (enG H vs fs) s σ H' → iosOf fs s = some ios → RIos C H' (ioA vs fs) ios := fun {s σ H' ios} S q =>
      ios_ok S (fun i a b h1 h2 => ioG_one h1 h2) (rargs_len ra) (fun p hp => hp) (fun j sv z => by rw [Nat.zero_add]; unfold sl; rw [z]; rfl) (fun j xs z => by
        obtain ⟨v, h1, a, ws, rfl, _⟩ := rargs_at (k := 0) ra z
        exact ⟨a, h1⟩) q
    have fin : ∀ {r : RV} {s : AS}, spR C H (ioA vs fs) Q E (finR fs r s) → ∀ σ' v H', Ext H H' → Sim C (enG H vs fs) s σ' H' → RRet C (enG H vs fs) H' v r → Q v H' := fun {r s} h σ' v H' e S rr => by
      unfold finR at h
      cases hi : iosOf fs s with
      | none => rw [hi] at h; exact h.elim
      | some l =>
        rw [hi] at h
        refine h v H' (kp S) S.tabs (ios S hi) ?_
        cases r with
        | val d => exact rr
        | new xs =>
          obtain ⟨a, ws, rfl, h1, h2, h3⟩ := rr
          exact ⟨a, ws, rfl, h3, h1, h2⟩
    cases hx : ex Φ fd.body (startA fd.ns fs) with
    | nx s => rw [hx] at h; exact fun σ' H' e S => fin h σ' .non H' e S .non
    | ret r s => rw [hx] at h; exact fun σ' v H' e S rr => fin h σ' v H' e S rr
    | brk s => rw [hx] at h; exact h.elim
    | ct s => rw [hx] at h; exact h.elim
    | bad => rw [hx] at h; exact h.elim
    | err c w s =>
      rw [hx] at h
      dsimp only at h
      intro σ' d vw H' e S hd hw
      cases hi : iosOf fs s with
      | none => rw [hi] at h; exact h.elim
      | some l =>
        rw [hi] at h
        exact h d vw H' (kp S) S.tabs (ios S hi) hd hw
  · rw [if_neg hl] at h
    exact h.elim

/-! ### the text of a def -/
structure Dt where
  name : Str
  qual : Str
  params : Arguments
  body : List Stmt
  scope : Scope
  dV : Value
  kV : Value
  doc : Value
  pm : Value
  cdv : Value
  ct : Value
  oc : Value
  an : Option Addr
  od : Option Addr
  osl : Array (Option Value)
  N : List Str
  ps : List Str
  lam : Bool
def Dt.fd (d : Dt) : FuncData := PySem.W.fnOf d.name d.qual d.params d.body d.scope d.dV d.kV d.doc d.pm d.an d.cdv d.ct
def Dt.tx (d : Dt) : TX := ⟨d.scope, fun _ => true, d.N, true, true, 2, d.lam, false⟩
/-- the text is that def -/
def Dt.is (d : Dt) (b : Tb) (f : FDef) : Bool := (mts b f.body).l d.tx d.body && (decide (f.np = d.ps.length) && (decide (f.ns = d.N.length) && decide (d.ps.length ≤ d.N.length)))
structure DtOk (K : PySem.W.Frag) (T : List (Addr × Str)) (mg : Str → Option Value) (base : Heap) (d : Dt) (a : Addr) : Prop where
  lk : K.lookup a = some ⟨d.oc, d.od, .func d.fd, d.osl⟩
  cd : PySem.W.codeIn K d.cdv d.qual = true
  sc : FnScope d.N d.ps d.scope
  kp : PySem.W.keepIn K (.ref a) = true
  bd : Binds K d.fd d.ps []
  lam : d.lam = true → ∃ c P : Addr, d.cdv = .ref c ∧ LamX.TabB base mg c P ∧ (P, d.qual ++ ".<locals>." ++ "<lambda>") ∈ T ∧ ∀ p ∈ T, p.1 = P → p.2 = d.qual ++ ".<locals>." ++ "<lambda>"
theorem fn_ok {B : Bd} {I : Bi} {d : Dt} {a : Addr} {f : FDef} (ok : BsOk B I) (D : DtOk B.C.K B.C.T B.mg B.base d a) (hm : d.is B.tb f = true) {Φ' : Calls} {j : Nat} (hg : ∀ fs, Φ'.go j fs = runF B.Φ f fs) :
    FnOk B.P B.w B.C.K B.mg B.base (L2N.CX B.P B.w) (B.k + 3) a d.fd d.ps (spF B.C Φ' j d.ps.length) := by
  unfold Dt.is at hm
  simp only [Bool.and_eq_true, decide_eq_true_eq] at hm
  obtain ⟨hm, h1, h2, h3⟩ := hm
  refine fn_of (k := B.k + 2) D.lk D.cd D.sc (fun vs H Q E h => h.1) fun A outer s H vs Q E hr h => ?_
  obtain ⟨hl, fs, ra, nd, tb, h⟩ := h
  rw [hg] at h
  have hlen := rargs_len ra
  have o : SX B d.tx (cxOf (L2N.CX B.P B.w) B.P B.w B.C.K B.mg B.base d.N d.qual d.scope a d.cdv A outer s H E) (enG H vs fs) (WL E) := {
    x := {
      P := rfl
      w := rfl
      K := rfl
      mg := rfl
      base := rfl
      N := rfl
      nd := D.sc.nd
      sc := rfl
      fn := fun x _ => rfl
      calm := fun _ => rfl
      room := fun _ => hr
      un := by
        have := hr.un
        show (A.deeper (envOfC d.qual d.scope s.heap.objs.size a d.cdv)).units + 64 < cLine
        omega
      tk := L2N.takes_of rfl rfl rfl rfl
      hot := fun z => by cases z
      gok := gok_start ra
      pn := fun z => by cases z
      h0 := fun _ a ps z => ⟨ps, z⟩
      lam := fun ht => D.lam ht }
    st := rfl
    fr := rfl
    po := fun _ => passes_of rfl
    kf := D.sc.kind }
  refine ⟨_, (ss ok f.body).l d.tx _ (enG H vs fs) (WL E) d.body o hm, startA f.ns fs, sim_start ra nd tb h2.symm (by omega), ?_⟩
  exact fn_run ra h
end AM
set_option Elab.async false
set_option linter.all false
set_option maxRecDepth 100000
namespace AM
open PySem PySem.Spec PyProof.Rows L2
/-- where a def stands, its name, slots, parameters; has it lambdas -/
structure Dd where
  at_ : Nat
  name : Str
  N : List Str
  ps : List Str
  lam : Bool
/-- the text st is that def -/
def Dd.is (d : Dd) (b : Tb) (f : FDef) (st : Stmt) : Bool := (mts b f.body).l ⟨defScope st, fun _ => true, d.N, true, true, 2, d.lam, false⟩ (defBody st) && (decide (f.np = d.ps.length) && (decide (f.ns = d.N.length) && decide (d.ps.length ≤ d.N.length)))
end AM
set_option Elab.async false
set_option linter.all false
set_option maxRecDepth 100000
set_option maxHeartbeats 1000000
/-! AM16: the written part's facts; the defs of a law, one upon another; a law's end. -/
namespace AM
open PySem PySem.Spec PyProof.Rows L2
open He (ga ma fAd codeOf tabOf cT DefD Fa SaysD SaysX)

/-! ### the classes' __init__ -/
theorem init_ok {P : Program} {w : World} {K : PySem.W.Frag} {mg : Str → Option Value} {base : Heap} {q : Str} {params : Arguments} {scope : Scope} {f : Addr} {fd : FuncData} {p1 p2 p3 p4 p5 p6 p7 p8 p9 p10 : Pos}
    (F : FunD K "__init__" q params [.Expr (.Call (.Attribute (.Name "ValueError" p1) "__init__" p2) [.Name "self" p3, .Name "what" p4] [] p5) p6, .Assign [.Attribute (.Name "self" p7) "what" p8] (.Name "what" p9) p10] scope [] [] f fd)
    (S : FnScope ["self", "what"] ["self", "what"] scope) (h1 : scope.names.lookup ("ValueError" : Str) = some .globalImplicit) (h2 : scope.names.lookup ("self" : Str) = some .local) (h3 : scope.names.lookup ("what" : Str) = some .local)
    (hl : (p2.endLine == p5.line) = true) (m1 : mg ("ValueError" : Str) = none) (vV : PySem.W.findCls K (.type "ValueError") (.type "type") "__init__" = some (.val (.builtin "ValueError.__init__"))) : FnOk P w K mg base (L2N.CX P w) 1 f fd ["self", "what"] (spI K) := by
  refine F.ok S (fun vs H Q E h => ?_) fun cdv A outer s H vs Q E hr h => ?_
  · obtain ⟨a, c, y, rfl, _⟩ := h
    rfl
  · obtain ⟨a, c, y, rfl, T, wh, ea, hq⟩ := h
    have hc : ∀ env : Env, eval (.Call (.Attribute (.Name "ValueError" p1) "__init__" p2) [.Name "self" p3, .Name "what" p4] [] p5) env = (do
      let ov ← eval (.Name "ValueError" p1) env
      standAt p2.atName
      let (f, first) ← holding [ov] (getMethod ov "__init__" (plainOf (.Name "ValueError" p1) env))
      callWith p5 f first (backTo p5 (starEach [.Name "self" p3, .Name "what" p4] env)) (backToKw p5 (keywordEach [] env))) := fun env => by
      rw [arm_eval_Call]
      simp only [mcall_line (show methodCallForm ([Expr.Name "self" p3, Expr.Name "what" p4].length + ([] : List Keyword).length) (backTo p5 (starEach [.Name "self" p3, .Name "what" p4] env)) (backToKw p5 (keywordEach [] env)) = true from rfl) hl]
      rfl
    refine ⟨_, pss_cons (ps_expr (pe_veinit (X := cxOf (L2N.CX P w) P w K mg base ["self", "what"] q scope f cdv A outer s H E) h1 m1 vV (pa_cons (pe_var (i := 0) rfl (.inl h2)) (pa_cons (pe_var (i := 1) rfl (.inl h3)) pa_nil)) (hc _)))
      (pss_one (ps_ost (pe_var (i := 0) rfl (.inl h2)) (pe_var (i := 1) rfl (.inl h3)))), ?_⟩
    refine ⟨.ref a, rfl, y, rfl, a, c, [y], rfl, (by show 1 ≤ 1000; decide), T, ea, y, rfl, .ref a, rfl, a, c, rfl, T, wh, .inl ⟨ea, fun dx hd hn => hq dx hd hn⟩⟩

/-! ### facts, by a test that runs -/
def oexB (K : PySem.W.Frag) (C : Addr) : Bool := match K.lookup C with
  | some ⟨.type "type", _, .cls cd, sl⟩ => (match cd.mro, sl.toList with
    | .ref C' :: bm, [_, _, _, _, some (.builtin n), _] => C' == C && (n == "ValueError.__new__" && (!cd.hasDel && (cd.hasDict && PySem.HandSPX.refsVE bm)))
    | _, _ => false)
  | _ => false
theorem oexB_ok {K : PySem.W.Frag} {C : Addr} (h : oexB K C = true) : ∃ nm q N bs bm sn sub ab col dd k0 k1 k2 k3 k5, K.lookup C = some (excClassObj nm q C N bs bm true sn sub ab col dd k0 k1 k2 k3 k5 "ValueError.__new__") ∧ PySem.HandSPX.refsVE bm = true := by
  unfold oexB at h
  split at h
  · rename_i dd cd sl ho
    split at h
    · rename_i C' bm k0 k1 k2 k3 n k5 hm hs
      simp only [Bool.and_eq_true, beq_iff_eq, Bool.not_eq_true'] at h
      obtain ⟨rfl, rfl, hdel, hdict, hr⟩ := h
      obtain ⟨nm, bs, mro, ns, qn, hd, sn, sub, ab, col, del⟩ := cd
      dsimp only at hm hdel hdict
      subst hm hdel hdict
      have hsl : sl = #[k0, k1, k2, k3, some (.builtin "ValueError.__new__"), k5] := by
        obtain ⟨l⟩ := sl
        simp only at hs
        rw [hs]
      subst hsl
      exact ⟨nm, qn, ns, bs, bm, sn, sub, ab, col, dd, k0, k1, k2, k3, k5, ho, hr⟩
    · cases h
  · cases h
def clsB (K : PySem.W.Frag) (fI C : Addr) : Bool := xfB K C && (decide (PySem.W.findIn K (.ref C) "what" = some none) && ((PySem.W.clsIn K C).isSome && (decide (PySem.W.findIn K (.ref C) "__class__" = some (some (.builtin "object.__class__"))) && (decide (PySem.W.mroIn K C (.type "object") = some true) &&
  (oexB K C && (decide (PySem.W.findIn K (.ref C) "__setattr__" = some (some (.builtin "object.__setattr__"))) && (decide (PySem.W.typeIn K (.ref C) = some (.type "type")) && (PySem.W.keepIn K (.ref C) && decide (PySem.W.findIn K (.ref C) "__init__" = some (some (.ref fI)))))))))))
def vvB (K : PySem.W.Frag) : Bool := match PySem.W.findCls K (.type "ValueError") (.type "type") "__init__" with
  | some (.val (.builtin n)) => n == "ValueError.__init__"
  | _ => false
theorem vvB_ok {K : PySem.W.Frag} (h : vvB K = true) : PySem.W.findCls K (.type "ValueError") (.type "type") "__init__" = some (.val (.builtin "ValueError.__init__")) := by
  unfold vvB at h
  split at h
  · rename_i n e
    rw [e, eq_of_beq h]
  · cases h
def nrm (n i : Nat) : Nat := if i < n then i else 0
def cadK (K : PySem.W.Frag) (cs : List Str) (i : Nat) : Addr := ga K (cs.getD (nrm cs.length i) default)
def subOf (n : Nat) (t : List (List Bool)) (i j : Nat) : Bool := (t.getD (nrm n i) []).getD (nrm n j) false
/-- of the classes cs (the first one has the __init__), who is below whom: t; the defs with lambdas: tf -/
def exB (cs : List Str) (t : List (List Bool)) (tf : List He.Defn) (K : PySem.W.Frag) : Bool :=
  let fI := ma K (cadK K cs 0) "__init__"
  decide (0 < cs.length) && ((List.range cs.length).all (fun i => clsB K fI (cadK K cs i)) && ((List.range cs.length).all (fun i => (List.range cs.length).all fun j =>
    decide (PySem.W.kitOne K (.ref (cadK K cs i)) (.ref (cadK K cs j)) = some (subOf cs.length t i j)) && decide (PySem.W.exmOne K (.ref (cadK K cs i)) (.ref (cadK K cs j)) = some (subOf cs.length t i j))) &&
  (decide (PySem.W.typeIn K (.ref fI) = some (.type "function")) && (decide (PySem.W.specialIn K (.builtin "object.__class__") "__get__" = some (some (.builtin "getset_descriptor.__get__"))) && (decide (PySem.W.takesIn K (.builtin "object.__class__") = some true) &&
  (vvB K && decide ((tf.map fun p => (cT K p).2).Nodup)))))))
structure ExOk (cs : List Str) (t : List (List Bool)) (tf : List He.Defn) (K : PySem.W.Frag) : Prop where
  xc : ∀ c, XcOk K (cadK K cs c)
  oex : ∀ c, OexC K (cadK K cs c)
  iC : ∀ c, PySem.W.findIn K (.ref (cadK K cs c)) "__init__" = some (some (.ref (ma K (cadK K cs 0) "__init__")))
  tI : PySem.W.typeIn K (.ref (ma K (cadK K cs 0) "__init__")) = some (.type "function")
  sub : ∀ k c, PySem.W.kitOne K (.ref (cadK K cs k)) (.ref (cadK K cs c)) = some (subOf cs.length t k c)
  exm : ∀ k c, PySem.W.exmOne K (.ref (cadK K cs k)) (.ref (cadK K cs c)) = some (subOf cs.length t k c)
  vV : PySem.W.findCls K (.type "ValueError") (.type "type") "__init__" = some (.val (.builtin "ValueError.__init__"))
  nd : (tf.map fun p => (cT K p).2).Nodup
theorem nrm_nrm {n i : Nat} (h : 0 < n) : nrm n i < n ∧ nrm n (nrm n i) = nrm n i := by
  unfold nrm
  by_cases c : i < n
  · rw [if_pos c]; exact ⟨c, if_pos c⟩
  · rw [if_neg c]; exact ⟨h, if_pos h⟩
theorem exB_ok {cs : List Str} {t : List (List Bool)} {tf : List He.Defn} {K : PySem.W.Frag} (h : exB cs t tf K = true) : ExOk cs t tf K := by
  unfold exB at h
  simp only [Bool.and_eq_true, decide_eq_true_eq] at h
  obtain ⟨h0, h1, h2, h3, h4, h5, h6, h7⟩ := h
  have cn : ∀ c, cadK K cs (nrm cs.length c) = cadK K cs c := fun c => by
    unfold cadK
    rw [(nrm_nrm h0).2]
  have sn : ∀ k c, subOf cs.length t (nrm cs.length k) (nrm cs.length c) = subOf cs.length t k c := fun k c => by
    unfold subOf
    rw [(nrm_nrm h0).2, (nrm_nrm h0).2]
  have a1 : ∀ c, clsB K (ma K (cadK K cs 0) "__init__") (cadK K cs c) = true := fun c => by
    rw [← cn c]
    exact List.all_eq_true.mp h1 _ (List.mem_range.mpr (nrm_nrm h0).1)
  have a2 : ∀ k c, PySem.W.kitOne K (.ref (cadK K cs k)) (.ref (cadK K cs c)) = some (subOf cs.length t k c) ∧ PySem.W.exmOne K (.ref (cadK K cs k)) (.ref (cadK K cs c)) = some (subOf cs.length t k c) := fun k c => by
    have z := List.all_eq_true.mp (List.all_eq_true.mp h2 _ (List.mem_range.mpr (nrm_nrm (i := k) h0).1)) _ (List.mem_range.mpr (nrm_nrm (i := c) h0).1)
    simp only [Bool.and_eq_true, decide_eq_true_eq] at z
    rw [cn, cn, sn] at z
    exact z
  have b : ∀ c, XcOk K (cadK K cs c) ∧ OexC K (cadK K cs c) ∧ PySem.W.findIn K (.ref (cadK K cs c)) "__init__" = some (some (.ref (ma K (cadK K cs 0) "__init__"))) := fun c => by
    have z := a1 c
    unfold clsB at z
    simp only [Bool.and_eq_true, decide_eq_true_eq] at z
    obtain ⟨z1, z2, z3, z4, z5, z6, z7, z8, z9, z10⟩ := z
    have X := xfB_ok z1
    exact ⟨⟨X, z2, z3, z4, h4, h5, z5⟩, ⟨oexB_ok z6, z7, X.exC, z8, z9⟩, z10⟩
  exact ⟨fun c => (b c).1, fun c => (b c).2.1, fun c => (b c).2.2, h3, fun k c => (a2 k c).1, fun k c => (a2 k c).2, vvB_ok h6, h7⟩

/-! ### the defs, one upon another -/
def fdOf (K : PySem.W.Frag) (a : Addr) : FuncData := match K.lookup a with
  | some ⟨_, _, .func fd, _⟩ => fd
  | _ => default
theorem fdOf_eq {K : PySem.W.Frag} {x q : Str} {params : Arguments} {body : List Stmt} {scope : Scope} {f : Addr} {fd : FuncData} (F : FunD K x q params body scope [] [] f fd) : fdOf K f = fd := by
  obtain ⟨oc, od, dV, kV, doc, pm, an, cdv, ct, osl, e, lk, _⟩ := F.ex
  unfold fdOf
  rw [lk]
/-- a lambda's qualified name -/
def lamQ (x : Str) : Str := x ++ ".<locals>." ++ "<lambda>"
def tabsT (K : PySem.W.Frag) (tf : List Str) : List (Addr × Str) := tf.map fun x => ((cT K (x, none)).2, lamQ x)
structure Lw where
  tb : Tb
  dds : List Dd
  Γ : Prog
  top : Nat → Stmt
  /-- the defs with lambdas -/
  tf : List Str
  subT : List (List Bool)
def Lw.dfn (L : Lw) : List He.Defn := L.tf.map fun x => (x, none)
structure Fx (L : Lw) (K : PySem.W.Frag) (mg : Str → Option Value) (base : Heap) : Prop where
  one : ∀ (f : Nat) (x : Str), L.tb.fnm[f]? = some x → ∃ (dd : Dd) (g : FDef), L.dds[f]? = some dd ∧ L.Γ.fns[f]? = some g ∧ dd.is L.tb g (L.top dd.at_) = true ∧ FnScope dd.N dd.ps (defScope (L.top dd.at_)) ∧ (dd.lam = true → x ∈ L.tf) ∧
    ∃ fd, FunD K x x (defArgs (L.top dd.at_)) (defBody (L.top dd.at_)) (defScope (L.top dd.at_)) [] [] (ga K x) fd ∧ Binds K fd dd.ps [] ∧ mg x = some (.ref (ga K x))
  cls : ∀ (c : Nat) (x : Str), L.tb.cnm[c]? = some x → mg x = some (.ref (ga K x))
  bl : ∀ x ∈ L.tb.bl, mg x = none
  nums : ∀ p ∈ L.tb.nums, ∃ t, mg p.1 = some (.int p.2 t)
  ex : ExOk L.tb.cnm L.subT L.dfn K
  sub : ∀ k c, L.Γ.sub k c = subOf L.tb.cnm.length L.subT k c
  tabs : ∀ x ∈ L.tf, LamX.TabB base mg (cT K (x, none)).1 (cT K (x, none)).2
noncomputable def Bn (L : Lw) (P : Program) (w : World) (K : PySem.W.Frag) (mg : Str → Option Value) (base : Heap) (n : Nat) : Bd where
  P := P
  w := w
  mg := mg
  base := base
  C := ⟨K, tabsT K L.tf, cadK K L.tb.cnm⟩
  Φ := phi L.Γ n
  k := 3 * n
  tb := L.tb
  fa := fun f => ga K ((L.tb.fnm[f]?).getD default)
  fd := fun f => fdOf K (ga K ((L.tb.fnm[f]?).getD default))
  ps := fun f => ((L.dds[f]?).map (·.ps)).getD []
theorem phi_sub (Γ : Prog) : ∀ n, (phi Γ n).sub = Γ.sub
  | 0 => rfl
  | _ + 1 => rfl
theorem tower_dt {L : Lw} {K : PySem.W.Frag} {mg : Str → Option Value} {base : Heap} (X : Fx L K mg base) {x : Str} {dd : Dd} {st : Stmt} {fd : FuncData} (F : FunD K x x (defArgs st) (defBody st) (defScope st) [] [] (ga K x) fd) (S : FnScope dd.N dd.ps (defScope st)) (hb : Binds K fd dd.ps []) (hl : dd.lam = true → x ∈ L.tf) :
    ∃ d : Dt, d.fd = fd ∧ d.N = dd.N ∧ d.ps = dd.ps ∧ d.body = defBody st ∧ d.scope = defScope st ∧ d.lam = dd.lam ∧ DtOk K (tabsT K L.tf) mg base d (ga K x) := by
  obtain ⟨oc, od, dV, kV, doc, pm, an, cdv, ct, osl, rfl, lk, hcd, _, _⟩ := F.ex
  refine ⟨⟨x, x, defArgs st, defBody st, defScope st, dV, kV, doc, pm, cdv, ct, oc, an, od, osl, dd.N, dd.ps, dd.lam⟩, rfl, rfl, rfl, rfl, rfl, rfl, ⟨lk, hcd, S, F.kp, hb, fun z => ?_⟩⟩
  have hx := hl z
  obtain ⟨c, hc⟩ := He.codeIn_ref hcd
  have e1 : (cT K (x, none)).1 = c := by
    show codeOf K (x, none) = c
    unfold codeOf
    show (match K.lookup (ga K x) with
      | some ⟨_, _, .func fd, _⟩ => (match fd.code with
        | .ref c => c
        | _ => 0)
      | _ => 0) = c
    rw [lk]
    subst hc
    rfl
  refine ⟨c, (cT K (x, none)).2, hc, ?_, List.mem_map.mpr ⟨x, hx, rfl⟩, fun p hp e => ?_⟩
  · have z := X.tabs x hx
    rw [e1] at z
    exact z
  · obtain ⟨y, hy, rfl⟩ := List.mem_map.mp hp
    have nd := X.ex.nd
    unfold Lw.dfn at nd
    rw [List.map_map] at nd
    have inj : y = x := by
      have e : (cT K (y, none)).2 = (cT K (x, none)).2 := e
      obtain ⟨i, hi, ei⟩ := List.mem_iff_getElem.mp hy
      obtain ⟨j, hj, ej⟩ := List.mem_iff_getElem.mp hx
      have := (List.getElem_inj (h₀ := by rw [List.length_map]; exact hi) (h₁ := by rw [List.length_map]; exact hj) nd).mp (by
        rw [List.getElem_map, List.getElem_map, ei, ej]
        exact e)
      subst this
      rw [← ei, ← ej]
    rw [inj]
    rfl
theorem tower {L : Lw} {P : Program} {w : World} {K : PySem.W.Frag} {mg : Str → Option Value} {base : Heap} {fI : FuncData} (X : Fx L K mg base) (hi : FnOk P w K mg base (L2N.CX P w) 1 (ma K (cadK K L.tb.cnm 0) "__init__") fI ["self", "what"] (spI K)) (hbI : Binds K fI ["self", "what"] [])
    (hh : ∀ n, HeardOk (Bn L P w K mg base n)) : ∀ n, BsOk (Bn L P w K mg base n) ⟨ma K (cadK K L.tb.cnm 0) "__init__", fI, ["self", "what"]⟩ := by
  have cl : ∀ c x, L.tb.cnm[c]? = some x → mg x = some (.ref (cadK K L.tb.cnm c)) := fun c x h => by
    have hc := (List.getElem?_eq_some_iff.mp h).1
    unfold cadK nrm
    rw [if_pos hc, List.getD_eq_getElem?_getD, h]
    exact X.cls c x h
  have main : ∀ n, (∀ f x, L.tb.fnm[f]? = some x → FnOk P w K mg base (L2N.CX P w) (3 * n) (ga K x) (fdOf K (ga K x)) (((L.dds[f]?).map (·.ps)).getD []) (spF ⟨K, tabsT K L.tf, cadK K L.tb.cnm⟩ (phi L.Γ n) f (((L.dds[f]?).map (·.ps)).getD []).length)) →
      BsOk (Bn L P w K mg base n) ⟨ma K (cadK K L.tb.cnm 0) "__init__", fI, ["self", "what"]⟩ := fun n hf => {
    b := {
      fn := fun f x h => by
        have h : L.tb.fnm[f]? = some x := h
        obtain ⟨dd, g, e1, e2, hm, S, hl, fd, F, hb, hg⟩ := X.one f x h
        have ex : (L.tb.fnm[f]?).getD default = x := by
          show (L.tb.fnm[f]?).getD default = x
          rw [h]
          rfl
        have ep : ((L.dds[f]?).map (·.ps)).getD [] = dd.ps := by rw [e1]; rfl
        have efd := fdOf_eq F
        refine ⟨?_, ?_, ?_, ?_, fun fs hne => ?_⟩
        · show mg x = some (.ref (ga K ((L.tb.fnm[f]?).getD default)))
          rw [ex]; exact hg
        · show PySem.W.keepIn K (.ref (ga K ((L.tb.fnm[f]?).getD default))) = true
          rw [ex]; exact F.kp
        · show Binds K (fdOf K (ga K ((L.tb.fnm[f]?).getD default))) (((L.dds[f]?).map (·.ps)).getD []) []
          rw [ex, ep, efd]; exact hb
        · show FnOk P w K mg base (L2N.CX P w) (3 * n) (ga K ((L.tb.fnm[f]?).getD default)) (fdOf K (ga K ((L.tb.fnm[f]?).getD default))) (((L.dds[f]?).map (·.ps)).getD []) _
          have z := hf f x h
          rw [ex]
          exact z
        · show fs.length = (((L.dds[f]?).map (·.ps)).getD []).length
          rw [ep]
          have hne : (phi L.Γ n).go f fs ≠ .bad := hne
          cases n with
          | zero => exact absurd rfl hne
          | succ n =>
            have eg : (phi L.Γ (n + 1)).go f fs = runF (phi L.Γ n) g fs := by
              show (match L.Γ.fns[f]? with
                | some fd => runF (phi L.Γ n) fd fs
                | none => .bad) = _
              rw [e2]
            rw [eg] at hne
            unfold runF at hne
            by_cases c : fs.length = g.np
            · unfold Dd.is at hm
              simp only [Bool.and_eq_true, decide_eq_true_eq] at hm
              rw [c, hm.2.1]
            · rw [if_neg c] at hne
              exact absurd rfl hne
      cl := cl
      xc := X.ex.xc
      sub := fun k c => by
        show PySem.W.kitOne K (.ref (cadK K L.tb.cnm k)) (.ref (cadK K L.tb.cnm c)) = some ((phi L.Γ n).sub k c)
        rw [phi_sub, X.sub]
        exact X.ex.sub k c
      bl := X.bl
      nums := X.nums
      heard := hh n }
    exm := fun k c => by
      show PySem.W.exmOne K (.ref (cadK K L.tb.cnm k)) (.ref (cadK K L.tb.cnm c)) = some ((phi L.Γ n).sub k c)
      rw [phi_sub, X.sub]
      exact X.ex.exm k c
    oex := X.ex.oex
    iC := X.ex.iC
    tI := X.ex.tI
    ini := hi
    bI := hbI }
  intro n
  induction n with
  | zero => exact main 0 fun f x h => ⟨fun vs H Q E z => z.1, fun A outer s H args us vs Q E _ _ _ _ z => by
      obtain ⟨_, _, _, _, _, z⟩ := z
      exact z.elim⟩
  | succ n ih =>
    refine main (n + 1) fun f x h => ?_
    obtain ⟨dd, g, e1, e2, hm, S, hl, fd, F, hb, hg⟩ := X.one f x h
    have ep : ((L.dds[f]?).map (·.ps)).getD [] = dd.ps := by rw [e1]; rfl
    have efd := fdOf_eq F
    obtain ⟨d, d1, d2, d3, d4, d5, d6, D⟩ := tower_dt X F S hb hl
    have hm' : d.is L.tb g = true := by
      unfold Dd.is at hm
      unfold Dt.is Dt.tx
      rw [d2, d3, d4, d5, d6]
      exact hm
    have z := fn_ok (Φ' := phi L.Γ (n + 1)) (j := f) ih D hm' (fun fs => by
      show (match L.Γ.fns[f]? with
        | some fd => runF (phi L.Γ n) fd fs
        | none => .bad) = _
      rw [e2]
      rfl)
    rw [ep, efd, ← d1, ← d3]
    rw [show 3 * (n + 1) = 3 * n + 3 by omega]
    exact z
end AM
set_option Elab.async false
set_option linter.all false
set_option maxRecDepth 100000
set_option maxHeartbeats 1000000
/-! AM17: a law's end. -/
namespace AM
open PySem PySem.Spec PyProof.Rows L2
open He (ga ma fAd codeOf tabOf cT DefD Fa SaysD SaysX)
theorem pss_lkin {X : Cx} {st : List Stmt} {t : TS} (h : PSs X st t) : PSs X st (fun D σ H => Lk (fun H' => t D σ H') H) := ⟨fun pins s σ H D I hw => by
  obtain ⟨H1, I1, q⟩ := hw.inv I
  exact h.run pins s σ H1 D I1 q⟩
/-- a promise that may freeze first -/
def spL (C : Cn) (Φ : Calls) (f np : Nat) : Sp := fun vs H Q E => vs.length = np ∧ Lk (fun H' => spF C Φ f np vs H' Q E) H
theorem fn_okL {B : Bd} {I : Bi} {d : Dt} {a : Addr} {f : FDef} (ok : BsOk B I) (D : DtOk B.C.K B.C.T B.mg B.base d a) (hm : d.is B.tb f = true) (hll : d.lam = false) {Φ' : Calls} {j : Nat} (hg : ∀ fs, Φ'.go j fs = runF B.Φ f fs) :
    FnOk B.P B.w B.C.K B.mg B.base (L2N.CX B.P B.w) (B.k + 3) a d.fd d.ps (spL B.C Φ' j d.ps.length) := by
  unfold Dt.is at hm
  simp only [Bool.and_eq_true, decide_eq_true_eq] at hm
  obtain ⟨hm, h1, h2, h3⟩ := hm
  refine fn_of (k := B.k + 2) D.lk D.cd D.sc (fun vs H Q E h => h.1) fun A outer s H vs Q E hr h => ?_
  have o : ∀ {fs : List FArg} {H' : Hp}, RArgs B.C H' vs fs → SX B d.tx (cxOf (L2N.CX B.P B.w) B.P B.w B.C.K B.mg B.base d.N d.qual d.scope a d.cdv A outer s H E) (enG H' vs fs) (WL E) := fun {fs H'} ra => {
    x := {
      P := rfl
      w := rfl
      K := rfl
      mg := rfl
      base := rfl
      N := rfl
      nd := D.sc.nd
      sc := rfl
      fn := fun x _ => rfl
      calm := fun _ => rfl
      room := fun _ => hr
      un := by
        have := hr.un
        show (A.deeper (envOfC d.qual d.scope s.heap.objs.size a d.cdv)).units + 64 < cLine
        omega
      tk := L2N.takes_of rfl rfl rfl rfl
      hot := fun z => by cases z
      gok := gok_start ra
      pn := fun z => by cases z
      h0 := fun z => by rw [show d.tx.lam = d.lam from rfl, hll] at z; cases z
      lam := fun ht => D.lam ht }
    st := rfl
    fr := rfl
    po := fun _ => passes_of rfl
    kf := D.sc.kind }
  refine ⟨_, pss_lkin (t := fun D' σ H' => ∃ fs, RArgs B.C H' vs fs ∧ tS B.C (enG H' vs fs) (WL E) (ex B.Φ f.body) D' σ H') ?_, h.2.imp fun H' h => ?_⟩
  · exact ⟨fun pins s σ H D I ⟨fs, ra, q⟩ => ((ss ok f.body).l d.tx _ (enG H vs fs) (WL E) d.body (o ra) hm).run pins s σ H D I q⟩
  · obtain ⟨hl, fs, ra, nd, tb, h⟩ := h
    rw [hg] at h
    have hlen := rargs_len ra
    exact ⟨fs, ra, startA f.ns fs, sim_start ra nd tb h2.symm (by omega), fn_run ra h⟩

/-! ### from the facts -/
def Dd.fn (top : Nat → Stmt) (d : Dd) : DefD := ⟨(d.name, none), d.name, d.name, defArgs (top d.at_), defBody (top d.at_), defScope (top d.at_), [], []⟩
def Lw.fn (L : Lw) (more : List DefD) : List DefD := L.dds.map (Dd.fn L.top) ++ more
def Lw.fa (L : Lw) : List Fa := L.tb.fnm.map .glo ++ (L.tb.cnm.map .glo ++ (L.tb.bl.map .free ++ (L.tb.nums.map (fun p => .int p.1 p.2) ++ (L.tb.hrd.map .glo ++ [.free "ValueError"]))))
def scB (N ps : List Str) (sc : Scope) : Bool := decide (sc.kind = .function) && (!sc.isCoroutine && (!sc.isGenerator && (decide N.Nodup && (decide (N.take ps.length = ps) && (ps.all (fun x => decide (sc.names.lookup x = some .local) || decide (sc.names.lookup x = some .cell)) && sc.names.all fun y => !decide (y.2 = .free))))))
theorem scB_ok {N ps : List Str} {sc : Scope} (h : scB N ps sc = true) : FnScope N ps sc := by
  unfold scB at h
  simp only [Bool.and_eq_true, decide_eq_true_eq, Bool.not_eq_true', List.all_eq_true, Bool.or_eq_true, decide_eq_false_iff_not] at h
  obtain ⟨h1, h2, h3, h4, h5, h6, h7⟩ := h
  exact ⟨h1, h2, h3, h4, h5, h6, h7⟩
/-- the law's tests: each def is its text; its scope; its name -/
def Lw.okB (L : Lw) : Bool := decide (L.tb.fnm = L.dds.map (·.name)) && (decide (L.Γ.fns.length = L.dds.length) && ((List.zip L.dds L.Γ.fns).all fun p => p.1.is L.tb p.2 (L.top p.1.at_) && (scB p.1.N p.1.ps (defScope (L.top p.1.at_)) && (!p.1.lam || decide (p.1.name ∈ L.tf)))))
/-- its parameters are bound in order -/
def Dd.bnd (top : Nat → Stmt) (d : Dd) : Prop := ∀ (kV doc pm : Value) (an : Option Addr) (cdv ct : Value) (us : List Value), us.length = d.ps.length → bindArgs (PySem.W.fnOf d.name d.name (defArgs (top d.at_)) (defBody (top d.at_)) (defScope (top d.at_)) .none kV doc pm an cdv ct) ⟨us, []⟩ = pure (d.ps.zip us)
theorem fx_of {L : Lw} {more : List DefD} {w : World} {h : Heap} {K : PySem.W.Frag} {mg : Str → Option Value} (hB : L.okB = true) (hb : ∀ d ∈ L.dds, d.bnd L.top) (hsub : ∀ k c, L.Γ.sub k c = subOf L.tb.cnm.length L.subT k c) (c : SaysX L.fa (L.fn more) [] L.dfn (exB L.tb.cnm L.subT L.dfn) w h K) (KX : K.In h) (G : h.Ns mainGlobals mg) (base : Heap) (tabs : ∀ p ∈ L.dfn.map (cT K), LamX.TabB base mg p.1 p.2) : Fx L K mg base := by
  have D : SaysD L.fa (L.fn more) K := c.t.d
  have fact : ∀ {f : Fa}, f ∈ L.fa → f.ok K = true := fun {f} hf => He.SaysD.facts D hf
  unfold Lw.okB at hB
  simp only [Bool.and_eq_true, decide_eq_true_eq] at hB
  obtain ⟨b1, b2, b3⟩ := hB
  refine ⟨fun f x hx => ?_, fun c x hx => ?_, fun x hx => ?_, fun p hp => ?_, exB_ok c.more, hsub, fun x hx => ?_⟩
  · have hf : f < L.dds.length := by
      have := (List.getElem?_eq_some_iff.mp hx).1
      rw [b1, List.length_map] at this
      exact this
    have e1 : L.dds[f]? = some (L.dds[f]) := List.getElem?_eq_getElem hf
    have e2 : L.Γ.fns[f]? = some (L.Γ.fns[f]) := List.getElem?_eq_getElem (by rw [b2]; exact hf)
    have ex : (L.dds[f]).name = x := by
      rw [b1, List.getElem?_map, e1] at hx
      exact Option.some.inj hx
    have hz : (L.dds[f], L.Γ.fns[f]) ∈ List.zip L.dds L.Γ.fns := by
      refine List.mem_iff_getElem.mpr ⟨f, by rw [List.length_zip, b2, Nat.min_self]; exact hf, by rw [List.getElem_zip]⟩
    have z := List.all_eq_true.mp b3 _ hz
    simp only [Bool.and_eq_true] at z
    obtain ⟨z1, z2, z3⟩ := z
    have edef : (L.fn more)[f]? = some (Dd.fn L.top (L.dds[f])) := by
      unfold Lw.fn
      rw [List.getElem?_append_left (by rw [List.length_map]; exact hf), List.getElem?_map, e1]
      rfl
    obtain ⟨fd, F⟩ := D.def_ f edef
    refine ⟨L.dds[f], L.Γ.fns[f], e1, e2, z1, scB_ok z2, fun hl => ?_, fd, ?_, ?_, ?_⟩
    · rw [hl] at z3
      rw [← ex]
      simpa using z3
    · rw [← ex]
      exact F
    · exact FunD.bindsN F (hb _ (List.getElem_mem hf))
    · exact He.glo_ok KX G (fact (List.mem_append_left _ (List.mem_map.mpr ⟨x, List.mem_of_getElem? hx, rfl⟩)))
  · exact He.glo_ok KX G (fact (List.mem_append_right _ (List.mem_append_left _ (List.mem_map.mpr ⟨x, List.mem_of_getElem? hx, rfl⟩))))
  · exact He.free_ok KX G (fact (List.mem_append_right _ (List.mem_append_right _ (List.mem_append_left _ (List.mem_map.mpr ⟨x, hx, rfl⟩)))))
  · exact He.int_ok KX G (fact (List.mem_append_right _ (List.mem_append_right _ (List.mem_append_right _ (List.mem_append_left _ (List.mem_map.mpr ⟨p, hp, rfl⟩))))))
  · exact tabs _ (List.mem_map.mpr ⟨(x, none), List.mem_map.mpr ⟨x, hx, rfl⟩, rfl⟩)
theorem ve_free {L : Lw} {more : List DefD} {w : World} {h : Heap} {K : PySem.W.Frag} {mg : Str → Option Value} (c : SaysX L.fa (L.fn more) [] L.dfn (exB L.tb.cnm L.subT L.dfn) w h K) (KX : K.In h) (G : h.Ns mainGlobals mg) : mg "ValueError" = none :=
  He.free_ok KX G (He.SaysD.facts c.t.d (List.mem_append_right _ (List.mem_append_right _ (List.mem_append_right _ (List.mem_append_right _ (List.mem_append_right _ (List.mem_singleton.mpr rfl)))))))
theorem hrd_glo {L : Lw} {more : List DefD} {w : World} {h : Heap} {K : PySem.W.Frag} {mg : Str → Option Value} (c : SaysX L.fa (L.fn more) [] L.dfn (exB L.tb.cnm L.subT L.dfn) w h K) (KX : K.In h) (G : h.Ns mainGlobals mg) {x : Str} (hx : x ∈ L.tb.hrd) : mg x = some (.ref (ga K x)) :=
  He.glo_ok KX G (He.SaysD.facts c.t.d (List.mem_append_right _ (List.mem_append_right _ (List.mem_append_right _ (List.mem_append_right _ (List.mem_append_left _ (List.mem_map.mpr ⟨x, hx, rfl⟩)))))))
theorem rfs_int {K : PySem.W.Frag} {H : Hp} : ∀ ns : List Int, Rfs K H (ns.map V.int) (ns.map PyData.int)
  | [] => .nil
  | n :: r => .cons (.int n) (rfs_int r)
/-- the law's end: what the machine says of the law's def -/
theorem law_at {l : PySem.W.OpenLaw} {L : Lw} {li N n : Nat} {dl : Dd} {gl : FDef} {w : World} {K : PySem.W.Frag} {mg : Str → Option Value} {h : Heap} {more : List DefD} {fI : FuncData} {x : Str} (hN : 0 < N)
    (c : SaysX L.fa (L.fn more) [] L.dfn (exB L.tb.cnm L.subT L.dfn) w h K) (KX : K.In h) (G : h.Ns mainGlobals mg) (hB : L.okB = true) (hb : ∀ d ∈ L.dds, d.bnd L.top) (hsub : ∀ k c, L.Γ.sub k c = subOf L.tb.cnm.length L.subT k c)
    (hl : L.dds[li]? = some dl) (hgl : L.Γ.fns[li]? = some gl) (hps : dl.ps = [x]) (hll : dl.lam = false) (hnm : L.tb.fnm[li]? = some dl.name)
    (hi : ∀ base : Heap, FnOk l.prog w K mg base (L2N.CX l.prog w) 1 (ma K (cadK K L.tb.cnm 0) "__init__") fI ["self", "what"] (spI K)) (hbI : Binds K fI ["self", "what"] [])
    (hh : ∀ base n, (∀ p ∈ L.dfn.map (cT K), LamX.TabB base mg p.1 p.2) → base.Ns mainGlobals mg → K.In base → HeardOk (Bn L l.prog w K mg base n))
    (plain : ∀ ns : List Int, ns.length ≤ n → (∀ z ∈ ns, Builtin.Int.intBits z ≤ 1048576) → (phi L.Γ N).go li [.val (.dict [(.list (ns.map PyData.int), .none)])] = .ret (.val (.bool true)) []) :
    LamX.LawAtS l w K (L2N.CX l.prog w) (3 * N) n x mg (ga K dl.name) h := by
  have D : SaysD L.fa (L.fn more) K := c.t.d
  have hli : li < L.dds.length := (List.getElem?_eq_some_iff.mp hl).1
  have edef : (L.fn more)[li]? = some (Dd.fn L.top dl) := by
    unfold Lw.fn
    rw [List.getElem?_append_left (by rw [List.length_map]; exact hli), List.getElem?_map, hl]
    rfl
  obtain ⟨fd, F⟩ := D.def_ li edef
  have hbl := hb dl (List.mem_of_getElem? hl)
  have bA := FunD.bindsA F hbl
  refine ⟨fd, L.dfn.map (cT K), spL ⟨K, tabsT K L.tf, cadK K L.tb.cnm⟩ (phi L.Γ N) li 1, fun p hp => ?_, fun p hp => ?_, fun p hp => ?_, fun s u => ?_, fun H a ns hlen hbits hT hS => ?_, fun base hKb hGb tabs => ?_⟩
  · obtain ⟨q, hq, rfl⟩ := List.mem_map.mp hp
    exact c.empty q hq
  · obtain ⟨q, hq, rfl⟩ := List.mem_map.mp hp
    exact c.out q hq
  · obtain ⟨q, hq, rfl⟩ := List.mem_map.mp hp
    exact PySem.W.codeHd_of_K KX (c.hd q hq)
  · have z := bA s [u] (by rw [hps]; rfl)
    rw [hps] at z
    exact z
  · refine ⟨rfl, ?_⟩
    have tabs0 : ∀ {H' : Hp}, (∀ p ∈ L.dfn.map (cT K), H' p.2 = some (.tbl #[])) → LamX.Tabs (tabsT K L.tf) H' := fun {H'} hT p hp => by
      obtain ⟨y, hy, rfl⟩ := List.mem_map.mp hp
      exact LamX.TabS.nil (hT _ (List.mem_map.mpr ⟨(y, none), List.mem_map.mpr ⟨y, hy, rfl⟩, rfl⟩))
    have fin : ∀ {H' : Hp}, SqS K H' a (ns.map V.int) → LamX.Tabs (tabsT K L.tf) H' → spF ⟨K, tabsT K L.tf, cadK K L.tb.cnm⟩ (phi L.Γ N) li 1 [.ref a] H' (fun v _ => v = .bl true) (fun _ _ _ => False) := fun {H'} hs ht => by
      refine ⟨rfl, [.val (.dict [(.list (ns.map PyData.int), .none)])], ⟨.scr hs (rfs_int ns), True.intro⟩, List.nodup_nil, ht, ?_⟩
      rw [plain ns hlen hbits]
      intro v H2 _ _ _ rr
      have rr : Rf K H2 v (.bool true) := rr
      cases rr
      rfl
    rcases hS with (hS | ⟨o, hS⟩) | hS
    · refine .frz hS fun o => .now (fin (.inl ⟨o, upd_same⟩) (tabs0 fun p hp => ?_))
      have hne : p.2 ≠ a := fun z => by
        have := hT p hp
        rw [z, hS] at this
        cases this
      rw [upd_ne hne]
      exact hT p hp
    · exact .now (fin (.inl ⟨o, hS⟩) (tabs0 hT))
    · exact .now (fin (.inr hS) (tabs0 hT))
  · obtain ⟨m, rfl⟩ : ∃ m, N = m + 1 := ⟨N - 1, by omega⟩
    have X := fx_of hB hb hsub c KX G base tabs
    obtain ⟨dd, g, e1, e2, hm, S, hl', fd', F', hb', hg'⟩ := X.one li dl.name hnm
    rw [hl] at e1
    cases e1
    have ok := tower (P := l.prog) (w := w) X (hi base) hbI (fun n => hh base n tabs hGb hKb) m
    obtain ⟨d, d1, d2, d3, d4, d5, d6, DD⟩ := tower_dt X F' S hb' hl'
    have hm' : d.is L.tb g = true := by
      unfold Dd.is at hm
      unfold Dt.is Dt.tx
      rw [d2, d3, d4, d5, d6]
      exact hm
    have z := fn_okL (Φ' := phi L.Γ (m + 1)) (j := li) ok DD hm' (by rw [d6]; exact hll) (fun fs => by
      show (match L.Γ.fns[li]? with
        | some fd => runF (phi L.Γ m) fd fs
        | none => .bad) = _
      rw [e2]
      rfl)
    have ef : fd = fd' := (fdOf_eq F).symm.trans (fdOf_eq F')
    rw [d1, ← ef, d3, hps] at z
    exact z
end AM
set_option Elab.async false
set_option linter.all false
set_option maxRecDepth 100000
set_option maxHeartbeats 1000000
/-! AM18: x(lambda: e): what is told, what is refused. -/
namespace AM
open PySem PySem.Spec PyProof.Rows L2
open He (ga ma fAd codeOf tabOf cT DefD Fa SaysD SaysX)
section
variable {C : Cn} {G : Gd} {s : AS} {σ : L2.St} {H H' : Hp}
theorem Sim.kept (S : Sim C G s σ H) (k : LamX.ExtN H H') (th : ∀ a ps, G.Hin a = some (.tbl ps) → ∃ o', H' a = some o') (tb : LamX.Tabs C.T H') : Sim C G s σ H' := by
  have e : Ext H H' := fun b o h _ n => k b o h n
  refine ⟨S.len, fun i sv q => ?_, S.dist, fun a o h m n => k a o (S.keep a o h m n) n, fun a o h => ?_, tb⟩
  · obtain ⟨v, z1, z2⟩ := S.slot i sv q
    refine ⟨v, z1, ?_⟩
    cases sv with
    | val d => exact Rf.ext e d v z2
    | own b xs =>
      obtain ⟨a, vs, rfl, h1, h2, h3⟩ := z2
      exact ⟨a, vs, rfl, k a _ h1 (fun ps z => by cases z), h2.ext e, h3⟩
    | exc c w =>
      obtain ⟨a, d, oe, vw, rfl, h1, h2, h3, h4, h5⟩ := z2
      exact ⟨a, d, oe, vw, rfl, h1, h2, h3, e _ _ h4 (fun _ z => by cases z) (fun _ z => by cases z), h5.ext e⟩
  · by_cases hb : ∀ ps, o ≠ .tbl ps
    · obtain ⟨o', z, n⟩ := S.there a o h
      exact ⟨o', k a o' z (n hb), n⟩
    · have hb : ∃ ps, o = .tbl ps := Classical.byContradiction fun z => hb fun ps e => z ⟨ps, e⟩
      obtain ⟨ps, rfl⟩ := hb
      obtain ⟨o', z⟩ := th a ps h
      exact ⟨_, z, fun n => absurd rfl (n ps)⟩
end
section
variable {X : Cx} {pins : List (Addr × Obj)} {σ : L2.St} {H : Hp} {s : Shared}
/-- x(), in the def that got the lambda: what it raises is wished for at the def's slots -/
theorem pe_actN {CXg : CXT} {Eg : XK} {Ng : List Str} {qg : Str} {sg : Scope} {g f c' : Addr} {cdg pm ctv : Value} {params : Arguments} {body : Expr} {scope : Scope} {k i : Nat} {a : Str} {pn : List (Addr × Obj)} {xe : Value → Shared → Prop} {W : WX} {tb : XK → TE} {p1 p2 : Pos}
    (I : Inv X pins σ H s) (L : LamX.LamS X.env.scope scope) (hf : s.heap.get? f = some (PySem.W.kla_obj "<lambda>" (X.env.qual ++ "<lambda>") params body scope (cloFrom X.env.cells scope.names []) pm c' ctv)) (hfn : H f = none) (hfr : f ∉ frs X.stack)
    (hbind : bindArgs (PySem.W.kla_fn "<lambda>" (X.env.qual ++ "<lambda>") params body scope (cloFrom X.env.cells scope.names []) pm (.ref c') ctv) ⟨[], []⟩ = pure [])
    (tk : L2N.Takes ((cxOf CXg X.prog X.w X.K X.mg X.base Ng qg sg g cdg X.A X.stack s H Eg).tr pn xe) W) (hr : Room (k + 1) (X.A.deeper (envOfC qg sg s.heap.objs.size g cdg)))
    (hbody : ∀ (A : Around) (outer : List Env) (s : Shared) (H : Hp) (E : XK), Room k (A.deeper (LamX.lamEnv X scope s.heap.objs.size f c')) → PE (lamN X A outer s H E scope f c') body (tb E))
    (hN : Ng[i]? = some a) (hv : Vis sg a) (hd : (a == ("__debug__" : Str)) = false) (hcd : (a == ("__classdict__" : Str)) = false) :
    PE ((cxOf CXg X.prog X.w X.K X.mg X.base Ng qg sg g cdg X.A X.stack s H Eg).tr pn xe) (.Call (.Name a p1) [] [] p2)
      (fun σZ HZ Q => σZ[i]? = some (some (.ref f)) ∧ HZ c' = some (LamX.CodeO c' (X.env.qual ++ "<lambda>")) ∧ tb (WE W σZ) σ HZ Q) := by
  refine ⟨fun pinsZ sZ σZ HZ Q IZ h => ?_⟩
  obtain ⟨hs, hc, ht⟩ := h
  refine wpAny_Call_Name_kw (thn ((pe_var (pos := p1) (i := i) hN hv hd hcd).run pinsZ sZ σZ HZ (fun v H1 => v = .ref f ∧ H1 = HZ) IZ ⟨.ref f, hs, rfl, rfl⟩) fun u s1 ⟨v, H1, I1, r1, q1⟩ => ?_)
  obtain ⟨ev, eH⟩ := q1
  subst ev
  rw [eH] at I1
  obtain rfl : u = Value.ref f := r1
  have of1 : s1.heap.get? f = some (PySem.W.kla_obj "<lambda>" (X.env.qual ++ "<lambda>") params body scope (cloFrom X.env.cells scope.names []) pm c' ctv) := I1.base.keep f _ hf hfn hfr (fun z => nomatch (show f ∈ ([] : List Addr) from z))
  refine PySem.W.callWith_F0 ⟨_, _, _, _, of1⟩ ?_
  have un : Un (frs X.stack) [] H HZ s.heap s1.heap := I1.base
  obtain ⟨⟨oc, vs, t, hoc, hdc, hvc⟩, _, _⟩ := I1.hok c' _ hc
  have rc : codeAny (model X.prog X.w) (X.A.deeper (envOfC qg sg s.heap.objs.size g cdg)) (.call (.ref f) ⟨[], []⟩) (CR (L2N.CX X.prog X.w) (envOfC qg sg s.heap.objs.size g cdg :: X.stack) X.prog X.w HZ s1 Q (WE W σZ)) s1 := by
    refine PySem.W.kla_callFunE hr.depth of1 rfl L.co L.gen rfl ⟨c', oc, vs, t, rfl, hoc, hdc, hvc⟩ ?_
    rw [hbind]
    refine wpAny_pure (wpAny_newFunctionEnv (fun y hy => (L.own y hy).2) (fun y hy => absurd hy (by simp)) (fun h₁ hns hsb => ⟨I1.nolimit.fresh _ hsb, ?_⟩) L.kind)
    show codeAny _ _ (.expr body (LamX.lamEnv X scope s1.heap.objs.size f c')) _ _
    have kp : ∀ b o, s1.heap.get? b = some o → h₁.get? b = some o := fun b o e => hsb.extBut b o (Nat.ne_of_lt (Heap.lt_size e)) (Heap.get?_push_of_some _ e)
    have J : Inv (LamX.lamCx X (X.A.deeper (envOfC qg sg s.heap.objs.size g cdg)) (envOfC qg sg s.heap.objs.size g cdg :: X.stack) s1 HZ (WE W σZ) scope f c') [] σ HZ { s1 with heap := h₁, toks := s1.toks + ([] : List (Str × Value)).length } :=
      LamX.lam_start2 I L I1.env0 hr.hd un hns kp
    refine PySem.W.kla_codeExpr (wpAny_mono ((hbody _ _ s1 HZ (WE W σZ) (hr.deeper _)).run [] _ _ HZ Q (J.wish _) ht) (fun v s' hq => ?_) fun e s' hq => hq)
    obtain ⟨w', H', J', rv, q⟩ := hq
    exact ⟨w', H', J'.os, J'.bare, J'.base, J'.hok, rv, q⟩
  have hx := L2N.passAt tk σZ
  refine wpAny_call (codeAny_mono rc fun r s' hq => ?_)
  cases r with
  | error e => exact hx pinsZ HZ s1 e s' I1 hq
  | ok fl =>
    cases fl with
    | ret u => exact I1.after hq
    | next => exact False.elim hq
    | brk => exact False.elim hq
    | cont => exact False.elim hq
end

theorem PS.nox' {X : Cx} {st : Stmt} {t : TS} (h : PS X.nox st t) : PS X st t := ⟨fun pins s σ H D I hw => by
  refine wpAny_mono (h.run pins s σ H D (I.wish _) hw) (fun f s1 q => ?_) fun e s1 z => z.elim
  cases f with
  | next => obtain ⟨σ', H', I', q⟩ := q; exact ⟨σ', H', I'.unwish, q⟩
  | brk => obtain ⟨σ', H', I', q⟩ := q; exact ⟨σ', H', I'.unwish, q⟩
  | cont => obtain ⟨σ', H', I', q⟩ := q; exact ⟨σ', H', I'.unwish, q⟩
  | ret u => obtain ⟨v, σ', H', I', r, q⟩ := q; exact ⟨v, σ', H', I'.unwish, r, q⟩⟩
/-- the world of the heard def's suite: nothing is called there -/
def B0 (B : Bd) (tb0 : Tb) : Bd := { B with Φ := ⟨fun _ => [], fun _ _ => .bad, B.Φ.sub, fun _ _ _ => none⟩, tb := tb0 }
theorem RRet_pin {C : Cn} {G : Gd} {a : Addr} {oe : Obj} {H : Hp} {v : V} {r : RV} (h : RRet C (pinG G a oe) H v r) : RRet C G H v r := by
  cases r with
  | val d => exact h
  | new xs => exact h
theorem heard_one {B : Bd} {I : Bi} {tb0 : Tb} (ok0 : BsOk (B0 B tb0) I) {f cR i g : Nat} {x a xr n : Str} {S1 : S} {pg : Arguments} {sg : Scope} {fdg : FuncData} {Ng : List Str} {b0 : Stmt} {suite : List Stmt} {j0 k0 : Nat} {q0 q1 q2 q3 q4 p1 p2 np : Pos}
    (F : FunD B.C.K x x pg [.Try [.Return (some (.Tuple [.Constant (.str "told") j0 q0, .Call (.Name a p1) [] [] p2] k0 q1)) q2] [.ExceptHandler (some (.Name xr np)) (some n) (b0 :: suite) q3] [] [] q4] sg [] [] g fdg)
    (Sg : FnScope Ng [a] sg) (hbg : Binds B.C.K fdg [a] []) (hmx : B.mg x = some (.ref g)) (hNa : Ng[0]? = some a) (hva : Vis sg a) (hNi : Ng[i]? = some n) (hln : sg.names.lookup n = some .local) (hgr : sg.names.lookup xr = some .globalImplicit) (hmr : B.mg xr = some (.ref (B.C.cad cR)))
    (hsu : (mts tb0 S1).l ⟨sg, fun _ => true, Ng, false, false, 0, false, true⟩ (b0 :: suite) = true)
    (told : ∀ c w dt, B.Φ.told f c w = some dt → B.Φ.sub c cR = true ∧ ∃ s3, ex (B0 B tb0).Φ S1 ((List.replicate Ng.length none).set i (some (.exc c w))) = .ret (.val dt) s3)
    (hdx : (x == ("__debug__" : Str)) = false) (hda : (a == ("__debug__" : Str)) = false) (hca : (a == ("__classdict__" : Str)) = false) (hdr : (xr == ("__debug__" : Str)) = false) :
    ∀ (T : TX) (X : Cx) (G : Gd) (W : Wish) (e : E) (body : Expr) (scope : Scope) (p lpos pos : Pos), XOk B T X G W → T.calm = true → T.up = 2 → T.lam = true → Gl X x → LamX.LamS X.env.scope scope →
      (∀ (A : Around) (outer : List Env) (s : Shared) (H : Hp) (E : XK) (f c' : Addr), Room B.k (A.deeper (LamX.lamEnv X scope s.heap.objs.size f c')) → PE (lamN X A outer s H E scope f c') body (tA B.C G (WL E) (ev B.Φ e))) →
      PE X (.Call (.Name x p) [.Lambda ⟨[], [], none, [], [], none, []⟩ body scope lpos] [] pos) (tA B.C G W (ev B.Φ (.told f e))) := by
  intro T X G W e body scope p lpos pos o hcalm hup hlam hgx L hbody
  refine ⟨fun pins s σ H Q I hw => ?_⟩
  obtain ⟨as, S, hw⟩ := hw
  unfold ev at hw
  obtain ⟨c, P, hcode, TB, hmT, hu⟩ := o.lam hlam
  obtain ⟨oc, od, dV, kV, doc, pm, an, cdv, ct, osl, rfl, lk, hcg, _, _⟩ := F.ex
  have hroom : Room (B.k + 2) X.A := by have := o.room hcalm; rw [hup] at this; exact this
  refine wpAny_Call_Name_kw (ld_glob I hgx (by rw [o.mg]; exact hmx) ?_ hdx)
  refine PySem.W.callWith_K (h₀ := X.base) I.ok.mod.kin (by rw [o.K]; exact F.kp) ?_ (by rfl) (by rfl)
  show wpAny _ _ (spliced ((false, eval (.Lambda ⟨[], [], none, [], [], none, []⟩ body scope lpos) X.env) :: backTo pos (starEach [] X.env))) _ _ s
  refine Calls.spliced_cons (LamX.lam_make2 I TB hcode hmT hu S.tabs (by rfl) (L.has I.ok) fun fl c' pm' ctv H1 s' I1 eN T1 hf hfn hfr hco => ?_)
  refine Calls.spliced_nil ⟨I1.kIn, ?_⟩
  have thI : ∀ {H2 : Hp} {s2 : Shared}, Inv X pins σ H2 s2 → ∀ a ps, G.Hin a = some (.tbl ps) → ∃ o', H2 a = some o' := fun {H2 s2} I2 a ps z => by
    obtain ⟨qs, hq⟩ := o.h0 hlam a ps z
    obtain ⟨more, hm⟩ := I2.base.tbls a qs hq
    exact ⟨_, hm⟩
  have S1' : Sim B.C G as σ H1 := S.kept eN (thI I1) T1
  have eE : Ext H H1 := fun b u h _ n => eN b u h n
  have rc : codeAny (model X.prog X.w) X.A (.call (.ref g) ⟨[.ref fl], []⟩) (CR C8.CX0 X.stack X.prog X.w H1 s' Q C8.E0) s' := by
    refine LamX.run_ofS (N := Ng) (ps := [a]) (us := [.ref fl]) (vs := [.ref fl]) (by rw [o.K]; exact lk) (by rw [o.K]; exact hcg) Sg hroom I1.env0 (hbg s' [.ref fl] (by rw [← o.K]; exact I1.kIn) rfl) (.cons rfl .nil) rfl fun hr' => ?_
    -- the def's context
    have act := fun (W' : WX) (pn : List (Addr × Obj)) (xe : Value → Shared → Prop) (tk : L2N.Takes ((cxOf C8.CX0 X.prog X.w X.K X.mg X.base Ng x sg g cdv X.A X.stack s' H1 C8.E0).tr pn xe) W') =>
      pe_actN (CXg := C8.CX0) (Eg := C8.E0) (p1 := p1) (p2 := p2) (i := 0) (tb := fun E => tD B.C G (WL E) (vl (ev B.Φ e))) I1 L hf hfn hfr (by rfl) tk hr' (fun A outer s H E hr2 => pe_vl (hbody A outer s H E fl c' hr2)) hNa hva hda hca
    refine ⟨_, pss_one (PS.nox' (L2N.ps_try_as (X := (cxOf C8.CX0 X.prog X.w X.K X.mg X.base Ng x sg g cdv X.A X.stack s' H1 C8.E0).nox) (c := .ref (B.C.cad cR)) (n := n) (x := xr) (i := i) (Wout := W0)
      (tb := fun W' D σZ HZ => σZ = L2.start Ng [V.ref fl] ∧ HZ c' = some (LamX.CodeO c' (X.env.qual ++ "<lambda>")) ∧ tD B.C G (WL (WE W' σZ)) (vl (ev B.Φ e)) σ HZ fun v H' => ∀ p, H' p = none → D.rt (.ref p) (upd H' p (.tup [.str "told", v])))
      (ts := fun a cls d D σZ HZ => ∀ oe, L2N.Zn cls d oe → (∃ vs, oe.data = .fields vs) → ∃ G1, GOk G1 ∧ tS B.C (pinG G1 a oe) W0 (ex (B0 B tb0).Φ S1) D σZ HZ)
      rfl rfl Sg.nd hNi hln ⟨hgr, hdr, .inl (by show X.mg xr = _; rw [o.mg]; exact hmr)⟩ takes0N (fun W' pn xe tk _ => ?_) (fun a' oe cls d pn hz hfl => ?_))), ?_⟩
    · refine ⟨fun pinsZ sZ σZ HZ D IZ ⟨hσ, hcZ, s0, S0, hq⟩ => ?_⟩
      refine (pss_one (ps_ret (pos := q2) (pe_tup (x1 := k0) (pos := q1) (pa_cons (pe_str (x := "told") (j := j0) (pos := q0)) (pa_cons (act W' pn xe tk) pa_nil rfl) rfl)))).run pinsZ sZ σZ HZ D IZ ?_
      refine ⟨by rw [hσ]; rfl, hcZ, s0, S0, hq.imp fun d s1 H2 _ _ q v rf => ⟨?_, fun p hp => q v rf p hp⟩⟩
      show 2 ≤ sizeLine
      rw [sizeLine_eq]
      decide
    · refine ⟨fun pinsZ sZ σZ HZ D IZ hwZ => ?_⟩
      obtain ⟨G1, gk, q⟩ := hwZ oe hz hfl
      have sx : SX (B0 B tb0) ⟨sg, fun _ => true, Ng, false, false, 0, false, true⟩ ((cxOf C8.CX0 X.prog X.w X.K X.mg X.base Ng x sg g cdv X.A X.stack s' H1 C8.E0).nox.suite a' ((a', oe) :: pn)) (pinG G1 a' oe) W0 := {
        x := {
          P := o.P
          w := o.w
          K := o.K
          mg := o.mg
          base := o.base
          N := rfl
          nd := Sg.nd
          sc := rfl
          fn := fun _ _ => rfl
          calm := fun h => by cases h
          room := fun h => by cases h
          un := by
            have := hr'.un
            show (X.A.deeper (envOfC x sg s'.heap.objs.size g cdv)).units + 64 < cLine
            omega
          tk := takes0N
          hot := fun _ => ⟨(a', oe), ⟨rfl, let ⟨vs, e⟩ := hfl; ⟨vs, e, hz.2.2 vs e⟩⟩, List.mem_cons_self ..⟩
          gok := gk
          pn := fun _ p hp => by
            have hp : p ∈ [(a', oe)] := hp
            rw [List.mem_singleton.mp hp]
            exact List.mem_cons_self ..
          h0 := fun h => by cases h
          lam := fun h => by cases h }
        st := rfl
        fr := rfl
        po := fun h => by cases h
        kf := Sg.kind }
      exact ((ss ok0 S1).l _ _ (pinG G1 a' oe) W0 _ sx hsu).run pinsZ sZ σZ HZ D IZ q
    · refine ⟨rfl, hco, as, S1', ?_⟩
      unfold toldM at hw
      cases hv : vl (ev B.Φ e) as with
      | bad => rw [hv] at hw; exact hw.elim
      | ok d s1 =>
        rw [hv] at hw
        intro H' e' S' v rf p hp
        refine hw _ (eE.trans (e'.trans (.same (same_upd hp)))) (S'.same (same_upd hp)) (.ref p) ?_
        exact Rf.tup (.inl (.inl upd_same)) (.cons (.str _) (.cons (Rf.ext (.same (same_upd hp)) d v rf) .nil))
      | err c w s1 =>
        rw [hv] at hw
        dsimp only at hw
        cases ht : B.Φ.told f c w with
        | none => rw [ht] at hw; exact hw.elim
        | some dt =>
          rw [ht] at hw
          obtain ⟨hs, s3, hex⟩ := told c w dt ht
          intro d vw H' e' S' hd hw'
          refine ⟨B.Φ.sub c cR, by show PySem.W.exmOne X.K _ _ = _; rw [o.K]; exact ok0.exm c cR, fun hb a' ha => ?_, fun hb => by rw [hs] at hb; cases hb⟩
          intro oe hz hfl
          have hi : i < Ng.length := (List.getElem?_eq_some_iff.mp hNi).1
          have hl : (L2.start Ng [V.ref fl]).length = Ng.length := by
            have h0 := (List.getElem?_eq_some_iff.mp hNa).1
            unfold L2.start
            simp
            omega
          have S2 : Sim B.C (pinG ⟨H', [], []⟩ a' oe) ((List.replicate Ng.length none).set i (some (.exc c w))) ((L2.start Ng [V.ref fl]).set i (some (.ref a'))) H' := by
            refine ⟨by simp [hl], fun j sv z => ?_, fun j l b b' xs ys z1 z2 _ => ?_, fun a o z _ _ => z, fun a o z => ⟨o, z, fun n => n⟩, S'.tabs⟩
            · rcases sl_set z with ⟨rfl, z, _⟩ | ⟨_, z⟩
              · cases z
                exact ⟨_, List.getElem?_set_self (by rw [hl]; exact hi), a', d, oe, vw, rfl, List.mem_cons_self .., hz.zc, hfl, hd, hw'⟩
              · unfold sl at z
                rw [List.getElem?_replicate] at z
                split at z <;> cases z
            · rcases sl_set z1 with ⟨_, z1, _⟩ | ⟨_, z1⟩
              · cases z1
              · unfold sl at z1
                rw [List.getElem?_replicate] at z1
                split at z1 <;> cases z1
          refine ⟨⟨H', [], []⟩, (fun p hp => absurd (show p ∈ ([] : List (Nat × Addr)) from hp) (by simp)), _, S2, ?_⟩
          rw [hex]
          intro σ' v H2 e2 S3 rr
          have rr : Rf B.C.K H2 v dt := rr
          have S4 : Sim B.C G s1 σ H2 := S'.kept (fun b u q n => S3.keep b u q (fun z => by cases z) n) (fun b ps z => by
            obtain ⟨o1, z1, _⟩ := S'.there b _ z
            obtain ⟨o2, z2, _⟩ := S3.there b o1 z1
            exact ⟨o2, z2⟩) S3.tabs
          exact hw H2 (eE.trans (e'.trans e2)) S4 v rr
  refine wpAny_call (codeAny_mono rc fun r s2 hq => ?_)
  cases r with
  | error e => exact (show False from hq).elim
  | ok fl =>
    cases fl with
    | ret u => exact I1.after hq
    | next => exact False.elim hq
    | brk => exact False.elim hq
    | cont => exact False.elim hq
end AM
set_option Elab.async false
set_option linter.all false
set_option maxRecDepth 100000
set_option maxHeartbeats 1000000
/-! AM19: the heard def of a law; the law's end with it. -/
namespace AM
open PySem PySem.Spec PyProof.Rows L2
open He (ga ma fAd codeOf tabOf cT DefD Fa SaysD SaysX)
/-- the heard def: its name, its parameter, the class that it catches, the error's name, its slots, the suite, where it stands, the class's and the error's places -/
structure Hd where
  name : Str
  a : Str
  xr : Str
  n : Str
  N : List Str
  S1 : S
  at_ : Nat
  c : Nat
  i : Nat
def tb0 (b : Tb) : Tb := ⟨[], b.cnm, [], b.bl, b.nums⟩
def Hd.is (h : Hd) (b : Tb) (st : Stmt) : Bool := (match defBody st with
  | [.Try [.Return (some (.Tuple [.Constant (.str t) _ _, .Call (.Name a _) [] [] _] _ _)) _] [.ExceptHandler (some (.Name xr _)) (some n) (b0 :: suite) _] [] [] _] =>
    decide (t = "told") && (decide (a = h.a) && (decide (xr = h.xr) && (decide (n = h.n) && (mts (tb0 b) h.S1).l ⟨defScope st, fun _ => true, h.N, false, false, 0, false, true⟩ (b0 :: suite))))
  | _ => false) && (scB h.N [h.a] (defScope st) && (decide (h.N[0]? = some h.a) && (decide (h.N[h.i]? = some h.n) && (decide ((defScope st).names.lookup h.a = some .local ∨ (defScope st).names.lookup h.a = some .cell) && (decide ((defScope st).names.lookup h.n = some .local) && (decide ((defScope st).names.lookup h.xr = some .globalImplicit) && (decide (b.cnm[h.c]? = some h.xr) && (decide (b.hrd = [h.name]) && (!dbg h.name && (!dbg h.a && (!(h.a == ("__classdict__" : Str)) && !dbg h.xr)))))))))))
noncomputable def toldS (sub : Nat → Nat → Bool) (h : Hd) : Nat → Nat → PyData → Option PyData := fun _ c w => if sub c h.c then (match ex ⟨fun _ => [], fun _ _ => .bad, sub, fun _ _ _ => none⟩ h.S1 ((List.replicate h.N.length none).set h.i (some (.exc c w))) with
  | .ret (.val d) _ => some d
  | _ => none) else none
theorem bs0 {L : Lw} {P : Program} {w : World} {K : PySem.W.Frag} {mg : Str → Option Value} {base : Heap} {fI : FuncData} (X : Fx L K mg base) (hi : FnOk P w K mg base (L2N.CX P w) 1 (ma K (cadK K L.tb.cnm 0) "__init__") fI ["self", "what"] (spI K)) (hbI : Binds K fI ["self", "what"] []) (n : Nat) :
    BsOk (B0 (Bn L P w K mg base n) (tb0 L.tb)) ⟨ma K (cadK K L.tb.cnm 0) "__init__", fI, ["self", "what"]⟩ where
  b := {
    fn := fun f x h => by
      have h : ([] : List Str)[f]? = some x := h
      simp at h
    cl := fun c x h => by
      have h : L.tb.cnm[c]? = some x := h
      have hc := (List.getElem?_eq_some_iff.mp h).1
      show mg x = some (.ref (cadK K L.tb.cnm c))
      unfold cadK nrm
      rw [if_pos hc, List.getD_eq_getElem?_getD, h]
      exact X.cls c x h
    xc := X.ex.xc
    sub := fun k c => by
      show PySem.W.kitOne K (.ref (cadK K L.tb.cnm k)) (.ref (cadK K L.tb.cnm c)) = some ((phi L.Γ n).sub k c)
      rw [phi_sub, X.sub]
      exact X.ex.sub k c
    bl := X.bl
    nums := X.nums
    heard := fun f x h => by
      have h : ([] : List Str)[f]? = some x := h
      simp at h }
  exm := fun k c => by
    show PySem.W.exmOne K (.ref (cadK K L.tb.cnm k)) (.ref (cadK K L.tb.cnm c)) = some ((phi L.Γ n).sub k c)
    rw [phi_sub, X.sub]
    exact X.ex.exm k c
  oex := X.ex.oex
  iC := X.ex.iC
  tI := X.ex.tI
  ini := hi
  bI := hbI
theorem phi_told (Γ : Prog) : ∀ n, (phi Γ n).told = Γ.told
  | 0 => rfl
  | _ + 1 => rfl
theorem heard_law {L : Lw} {P : Program} {w : World} {K : PySem.W.Frag} {mg : Str → Option Value} {base : Heap} {fI fdh : FuncData} {h : Hd} (X : Fx L K mg base) (hi : FnOk P w K mg base (L2N.CX P w) 1 (ma K (cadK K L.tb.cnm 0) "__init__") fI ["self", "what"] (spI K)) (hbI : Binds K fI ["self", "what"] [])
    (F : FunD K h.name h.name (defArgs (L.top h.at_)) (defBody (L.top h.at_)) (defScope (L.top h.at_)) [] [] (ga K h.name) fdh) (hb : Binds K fdh [h.a] []) (hm : mg h.name = some (.ref (ga K h.name))) (his : h.is L.tb (L.top h.at_) = true) (htold : L.Γ.told = toldS L.Γ.sub h) (n : Nat) :
    HeardOk (Bn L P w K mg base n) := by
  unfold Hd.is at his
  simp only [Bool.and_eq_true, decide_eq_true_eq, Bool.not_eq_true'] at his
  obtain ⟨h1, h2, h3, h4, h5, h6, h7, h8, h9, h10, h11, h12, h13⟩ := his
  generalize hst : L.top h.at_ = st at *
  generalize hbd : defBody st = bd at *
  split at h1
  · simp only [Bool.and_eq_true, decide_eq_true_eq] at h1
    obtain ⟨rfl, rfl, rfl, rfl, h14⟩ := h1
    intro f x hx
    have hx : L.tb.hrd[f]? = some x := hx
    rw [h9] at hx
    have hf : f = 0 := by
      have := (List.getElem?_eq_some_iff.mp hx).1
      simp at this
      omega
    subst hf
    have hx : h.name = x := by simpa using hx
    subst hx
    have ok0 := bs0 X hi hbI n
    refine heard_one (B := Bn L P w K mg base n) (tb0 := tb0 L.tb) (cR := h.c) (i := h.i) (S1 := h.S1) ok0 F (scB_ok h2) hb hm h3 (h5.elim .inl fun z => .inr (.inl z)) h4 h6 h7 ?_ h14 (fun c w dt ht => ?_) h10 h11 h12 h13
    · exact ok0.b.cl h.c _ h8
    · have ht : (phi L.Γ n).told 0 c w = some dt := ht
      rw [phi_told, htold] at ht
      unfold toldS at ht
      by_cases hs : L.Γ.sub c h.c = true
      · rw [if_pos hs] at ht
        refine ⟨by show (phi L.Γ n).sub c h.c = true; rw [phi_sub]; exact hs, ?_⟩
        show ∃ s3, ex ⟨fun _ => [], fun _ _ => .bad, (phi L.Γ n).sub, fun _ _ _ => none⟩ h.S1 _ = .ret (.val dt) s3
        rw [phi_sub]
        split at ht
        · rename_i d s3 e
          cases ht
          exact ⟨s3, e⟩
        · cases ht
      · rw [if_neg hs] at ht
        cases ht
  · cases h1
end AM
set_option Elab.async false
set_option linter.all false
set_option maxRecDepth 100000
set_option maxHeartbeats 2000000
namespace AM
open PySem
/-! ### evaluation, by simp -/
@[simp] theorem bd_ok {α β} (a : α) (s : AS) (f : α → AS → Out β) : (Out.ok a s).bd f = f a s := Eq.trans rfl rfl
@[simp] theorem bd_err {α β} (c : Nat) (w : PyData) (s : AS) (f : α → AS → Out β) : (Out.err c w s : Out α).bd f = .err c w s := Eq.trans rfl rfl
@[simp] theorem bd_bad {α β} (f : α → AS → Out β) : (Out.bad : Out α).bd f = .bad := Eq.trans rfl rfl
@[simp] theorem so_ok {α} (a : α) (s : AS) (f : α → AS → SO) : (Out.ok a s).so f = f a s := Eq.trans rfl rfl
@[simp] theorem so_err {α} (c : Nat) (w : PyData) (s : AS) (f : α → AS → SO) : (Out.err c w s : Out α).so f = .err c w s := Eq.trans rfl rfl
@[simp] theorem so_bad {α} (f : α → AS → SO) : (Out.bad : Out α).so f = .bad := Eq.trans rfl rfl
@[simp] theorem bnd_ap {α β} (m : M α) (f : α → M β) : bnd m f = fun s => (m s).bd f := Eq.trans rfl rfl
@[simp] theorem ret_ap {α} (a : α) : ret a = fun s => .ok a s := Eq.trans rfl rfl
@[simp] theorem fail_ap {α} : (fail : M α) = fun _ => .bad := Eq.trans rfl rfl
@[simp] theorem lift_some {α} (a : α) : lift (some a) = fun s => .ok a s := Eq.trans rfl rfl
@[simp] theorem lift_none {α} : lift (none : Option α) = fun _ => .bad := Eq.trans rfl rfl
@[simp] theorem sl_0 (o : Option SV) (s : AS) : sl (o :: s) 0 = o := by cases o <;> rfl
@[simp] theorem sl_s (o : Option SV) (s : AS) (i : Nat) : sl (o :: s) (i + 1) = sl s i := Eq.trans rfl rfl
@[simp] theorem nz_val (d : PyData) (s : AS) : nz (.val d) s = .ok (.val d) s := Eq.trans rfl rfl
@[simp] theorem nz_new (xs : List PyData) (s : AS) : nz (.new xs) s = .ok (.val (.list xs)) s := Eq.trans rfl rfl
@[simp] theorem nz_bor (i : Nat) (s : AS) : nz (.bor i) s = .ok (.bor i) s := Eq.trans rfl rfl
@[simp] theorem rdo_val (s : AS) (d : PyData) : rdo s (.val d) = some d := Eq.trans rfl rfl
@[simp] theorem fz_val (d : PyData) (s : AS) : fz (.val d) s = .ok d s := Eq.trans rfl rfl
@[simp] theorem fz_new (xs : List PyData) (s : AS) : fz (.new xs) s = .ok (.list xs) s := Eq.trans rfl rfl
@[simp] theorem rd_val (d : PyData) (s : AS) : rd (.val d) s = .ok d s := Eq.trans rfl rfl
@[simp] theorem take_val (d : PyData) (s : AS) : take1 (.val d) s = .ok (.val d) s := Eq.trans rfl rfl
@[simp] theorem take_new (xs : List PyData) (s : AS) : take1 (.new xs) s = .ok (.own false xs) s := Eq.trans rfl rfl
@[simp] theorem retA_val (d : PyData) (s : AS) : retA (.val d) s = .ok (.val d) s := Eq.trans rfl rfl
@[simp] theorem retA_new (xs : List PyData) (s : AS) : retA (.new xs) s = .ok (.new xs) s := Eq.trans rfl rfl

/-! #### the machine's equations -/
@[simp] theorem bd_assoc {α β γ} (o : Out α) (f : α → AS → Out β) (g : β → AS → Out γ) : (o.bd f).bd g = o.bd fun a s => (f a s).bd g := by cases o <;> rfl
@[simp] theorem bd_so {α β} (o : Out α) (f : α → AS → Out β) (g : β → AS → SO) : (o.bd f).so g = o.so fun a s => (f a s).so g := by cases o <;> rfl
def rngM (d : PyData) (s : AS) : Out Src := match d with
  | .int j => if rngOk j = true then .ok (rangeD 0 j, []) s else .bad
  | _ => .bad
@[simp] theorem rngM_int {j : Int} {s : AS} (h : rngOk j = true) : rngM (.int j) s = .ok (rangeD 0 j, []) s := by
  unfold rngM
  dsimp only
  rw [if_pos h]
section
variable (Φ : Calls)
@[simp] theorem ev_var (i : Nat) : ev Φ (.var i) = (fun s => match sl s i with
    | some (.val d) => .ok (.val d) s
    | some (.own _ _) => .ok (.bor i) s
    | _ => .bad) := by rw [ev] <;> first | rfl | (intros; rename_i hz; cases hz) | (intro hz; cases hz) | (intros; contradiction)
@[simp] theorem ev_lit (d : PyData) : ev Φ (.lit d) = (ret (.val d)) := by rw [ev] <;> first | rfl | (intros; rename_i hz; cases hz) | (intro hz; cases hz) | (intros; contradiction)
@[simp] theorem ev_glb (x : Str) (d : PyData) : ev Φ (.glb x d) = (ret (.val d)) := by rw [ev] <;> first | rfl | (intros; rename_i hz; cases hz) | (intro hz; cases hz) | (intros; contradiction)
@[simp] theorem ev_nt (a : E) : ev Φ (.nt a) = (bnd (bnd (opn (ev Φ a)) trA) fun b => ret (.val (.bool !b))) := by rw [ev] <;> first | rfl | (intros; rename_i hz; cases hz) | (intro hz; cases hz) | (intros; contradiction)
@[simp] theorem ev_an (l : E) : ev Φ (.an l) = (evAn Φ l) := by rw [ev] <;> first | rfl | (intros; rename_i hz; cases hz) | (intro hz; cases hz) | (intros; contradiction)
@[simp] theorem ev_orr (l : E) : ev Φ (.orr l) = (evOr Φ l) := by rw [ev] <;> first | rfl | (intros; rename_i hz; cases hz) | (intro hz; cases hz) | (intros; contradiction)
@[simp] theorem ev_ite (t a b : E) : ev Φ (.ite t a b) = (bnd (tst Φ t) fun k => if k then ev Φ a else ev Φ b) := by rw [ev] <;> first | rfl | (intros; rename_i hz; cases hz) | (intro hz; cases hz) | (intros; contradiction)
@[simp] theorem ev_bin (o : BOp) (a b : E) : ev Φ (.bin o a b) = (bin2 o (ev Φ a) (ev Φ b)) := by rw [ev] <;> first | rfl | (intros; rename_i hz; cases hz) | (intro hz; cases hz) | (intros; contradiction)
@[simp] theorem ev_cmp (o : COp) (a b : E) : ev Φ (.cmp o a b) = (bnd (cmp2 o (ev Φ a) (ev Φ b)) fun k => ret (.val (.bool k))) := by rw [ev] <;> first | rfl | (intros; rename_i hz; cases hz) | (intro hz; cases hz) | (intros; contradiction)
@[simp] theorem ev_chn (o o' : COp) (a b c : E) : ev Φ (.chn o o' a b c) = (bnd (chn3 o o' (ev Φ a) (ev Φ b) (ev Φ c)) fun k => ret (.val (.bool k))) := by rw [ev] <;> first | rfl | (intros; rename_i hz; cases hz) | (intro hz; cases hz) | (intros; contradiction)
@[simp] theorem ev_isN (k : Bool) (a : E) : ev Φ (.isN k a) = (bnd (opn (ev Φ a)) fun x => bnd (rd x) fun d => ret (.val (.bool (isNone d == k)))) := by rw [ev] <;> first | rfl | (intros; rename_i hz; cases hz) | (intro hz; cases hz) | (intros; contradiction)
@[simp] theorem ev_tup (l : E) : ev Φ (.tup l) = (bnd (bnd (evs Φ l) fzs) fun ds => if fits ds.length then ret (.val (.tuple ds)) else fail) := by rw [ev] <;> first | rfl | (intros; rename_i hz; cases hz) | (intro hz; cases hz) | (intros; contradiction)
@[simp] theorem ev_lst (l : E) : ev Φ (.lst l) = (bnd (bnd (evs Φ l) fzs) fun ds => if fits ds.length then ret (.new ds) else fail) := by rw [ev] <;> first | rfl | (intros; rename_i hz; cases hz) | (intro hz; cases hz) | (intros; contradiction)
@[simp] theorem ev_ix (a i : E) : ev Φ (.ix a i) = (bnd (opn (ev Φ a)) fun x => bnd (vl (ev Φ i)) fun j => bnd (rd x) fun d => bnd (lift (ixD d j)) fun y => ret (.val y)) := by rw [ev] <;> first | rfl | (intros; rename_i hz; cases hz) | (intro hz; cases hz) | (intros; contradiction)
@[simp] theorem ev_slc (a lo hi : E) : ev Φ (.slc a lo hi) = (bnd (opn (ev Φ a)) fun x => bnd (part Φ lo) fun l => bnd (part Φ hi) fun h => bnd (rd x) fun d => lift (slcD d l h)) := by rw [ev] <;> first | rfl | (intros; rename_i hz; cases hz) | (intro hz; cases hz) | (intros; contradiction)
@[simp] theorem ev_rev (a : E) : ev Φ (.rev a) = (bnd (opn (ev Φ a)) fun x => bnd (rd x) fun d => lift (revD d)) := by rw [ev] <;> first | rfl | (intros; rename_i hz; cases hz) | (intro hz; cases hz) | (intros; contradiction)
@[simp] theorem ev_call (f : Nat) (l : E) : ev Φ (.call f l) = (bnd (evs Φ l) (callA Φ f)) := by rw [ev] <;> first | rfl | (intros; rename_i hz; cases hz) | (intro hz; cases hz) | (intros; contradiction)
@[simp] theorem ev_blt (b : Blt) (l : E) : ev Φ (.blt b l) = (bnd (bnd (evs Φ l) rds) fun ds => lift (bltD b ds)) := by rw [ev] <;> first | rfl | (intros; rename_i hz; cases hz) | (intro hz; cases hz) | (intros; contradiction)
@[simp] theorem ev_inst (a : E) (t : Ty) : ev Φ (.inst a t) = (bnd (opn (ev Φ a)) fun x => bnd (rd x) fun d => if instOk d then ret (.val (.bool (instD t d))) else fail) := by rw [ev] <;> first | rfl | (intros; rename_i hz; cases hz) | (intro hz; cases hz) | (intros; contradiction)
@[simp] theorem ev_excIs (i c : Nat) : ev Φ (.excIs i c) = (fun s => match sl s i with
    | some (.exc k _) => .ok (.val (.bool (Φ.sub k c))) s
    | _ => .bad) := by rw [ev] <;> first | rfl | (intros; rename_i hz; cases hz) | (intro hz; cases hz) | (intros; contradiction)
@[simp] theorem ev_what (i : Nat) : ev Φ (.what i) = (fun s => match sl s i with
    | some (.exc _ w) => .ok (.val w) s
    | _ => .bad) := by rw [ev] <;> first | rfl | (intros; rename_i hz; cases hz) | (intro hz; cases hz) | (intros; contradiction)
@[simp] theorem ev_meth (m : Mth) (a l : E) : ev Φ (.meth m a l) = (bnd (opn (ev Φ a)) fun x => bnd (mOk m x) fun _ => bnd (evs Φ l) (methM m x)) := by rw [ev] <;> first | rfl | (intros; rename_i hz; cases hz) | (intro hz; cases hz) | (intros; contradiction)
@[simp] theorem ev_comp (elt : E) (g : AM.G) (it tests : E) (own : List Nat) : ev Φ (.comp elt g it tests own) = (bnd (evIt Φ false it) fun src => compM src own g (tsts Φ tests) (vl (ev Φ elt))) := by rw [ev] <;> first | rfl | (intros; rename_i hz; cases hz) | (intro hz; cases hz) | (intros; contradiction)
@[simp] theorem ev_told (f : Nat) (b : E) : ev Φ (.told f b) = (toldM Φ f (ev Φ b)) := by rw [ev] <;> first | rfl | (intros; rename_i hz; cases hz) | (intro hz; cases hz) | (intros; contradiction)
@[simp] theorem part_nop : part Φ .nop = (ret none) := by rw [part] <;> first | rfl | (intros; rename_i hz; cases hz) | (intro hz; cases hz) | (intros; contradiction)
@[simp] theorem part_lit (d : PyData) : part Φ (.lit d) = (bnd (vl (ev Φ (.lit d))) fun d => lift (partD d)) := by rw [part] <;> first | rfl | (intros; rename_i hz; cases hz) | (intro hz; cases hz) | (intros; contradiction)
@[simp] theorem part_var (i : Nat) : part Φ (.var i) = (bnd (vl (ev Φ (.var i))) fun d => lift (partD d)) := by rw [part] <;> first | rfl | (intros; rename_i hz; cases hz) | (intro hz; cases hz) | (intros; contradiction)
@[simp] theorem part_bin (o : BOp) (a b : E) : part Φ (.bin o a b) = (bnd (vl (ev Φ (.bin o a b))) fun d => lift (partD d)) := by rw [part] <;> first | rfl | (intros; rename_i hz; cases hz) | (intro hz; cases hz) | (intros; contradiction)
@[simp] theorem part_neg (a : E) : part Φ (.neg a) = (bnd (vl (ev Φ (.neg a))) fun d => lift (partD d)) := by rw [part] <;> first | rfl | (intros; rename_i hz; cases hz) | (intro hz; cases hz) | (intros; contradiction)
@[simp] theorem evs_nil : evs Φ .nil = (ret []) := by rw [evs] <;> first | rfl | (intros; rename_i hz; cases hz) | (intro hz; cases hz) | (intros; contradiction)
@[simp] theorem evs_cons (a r : E) : evs Φ (.cons a r) = (bnd (opn (ev Φ a)) fun x => bnd (evs Φ r) fun xs => ret (x :: xs)) := by rw [evs] <;> first | rfl | (intros; rename_i hz; cases hz) | (intro hz; cases hz) | (intros; contradiction)
@[simp] theorem evAn_1 (a : E) : evAn Φ (.cons a .nil) = (ev Φ a) := by rw [evAn] <;> first | rfl | (intros; rename_i hz; cases hz) | (intro hz; cases hz) | (intros; contradiction)
@[simp] theorem evAn_c (a b c : E) : evAn Φ (.cons a (.cons b c)) = (bnd (opn (ev Φ a)) fun x => bnd (trA x) fun k => if k then evAn Φ (.cons b c) else ret x) := by rw [evAn] <;> first | rfl | (intros; rename_i hz; cases hz) | (intro hz; cases hz) | (intros; contradiction)
@[simp] theorem evOr_1 (a : E) : evOr Φ (.cons a .nil) = (ev Φ a) := by rw [evOr] <;> first | rfl | (intros; rename_i hz; cases hz) | (intro hz; cases hz) | (intros; contradiction)
@[simp] theorem evOr_c (a b c : E) : evOr Φ (.cons a (.cons b c)) = (bnd (opn (ev Φ a)) fun x => bnd (trA x) fun k => if k then ret x else evOr Φ (.cons b c)) := by rw [evOr] <;> first | rfl | (intros; rename_i hz; cases hz) | (intro hz; cases hz) | (intros; contradiction)
@[simp] theorem tst_nt (a : E) : tst Φ (.nt a) = (bnd (tst Φ a) fun b => ret !b) := by rw [tst] <;> first | rfl | (intros; rename_i hz; cases hz) | (intro hz; cases hz) | (intros; contradiction)
@[simp] theorem tst_an (l : E) : tst Φ (.an l) = (tstAn Φ l) := by rw [tst] <;> first | rfl | (intros; rename_i hz; cases hz) | (intro hz; cases hz) | (intros; contradiction)
@[simp] theorem tst_orr (l : E) : tst Φ (.orr l) = (tstOr Φ l) := by rw [tst] <;> first | rfl | (intros; rename_i hz; cases hz) | (intro hz; cases hz) | (intros; contradiction)
@[simp] theorem tst_ite (t a b : E) : tst Φ (.ite t a b) = (bnd (tst Φ t) fun k => if k then tst Φ a else tst Φ b) := by rw [tst] <;> first | rfl | (intros; rename_i hz; cases hz) | (intro hz; cases hz) | (intros; contradiction)
@[simp] theorem tst_cmp (o : COp) (a b : E) : tst Φ (.cmp o a b) = (cmp2 o (ev Φ a) (ev Φ b)) := by rw [tst] <;> first | rfl | (intros; rename_i hz; cases hz) | (intro hz; cases hz) | (intros; contradiction)
@[simp] theorem tst_chn (o o' : COp) (a b c : E) : tst Φ (.chn o o' a b c) = (chn3 o o' (ev Φ a) (ev Φ b) (ev Φ c)) := by rw [tst] <;> first | rfl | (intros; rename_i hz; cases hz) | (intro hz; cases hz) | (intros; contradiction)
@[simp] theorem tst_var (i : Nat) : tst Φ (.var i) = (bnd (opn (ev Φ (.var i))) trA) := by rw [tst] <;> first | rfl | (intros; rename_i hz; cases hz) | (intro hz; cases hz) | (intros; contradiction)
@[simp] theorem tst_call (f : Nat) (l : E) : tst Φ (.call f l) = (bnd (opn (ev Φ (.call f l))) trA) := by rw [tst] <;> first | rfl | (intros; rename_i hz; cases hz) | (intro hz; cases hz) | (intros; contradiction)
@[simp] theorem tst_blt (f : Blt) (l : E) : tst Φ (.blt f l) = (bnd (opn (ev Φ (.blt f l))) trA) := by rw [tst] <;> first | rfl | (intros; rename_i hz; cases hz) | (intro hz; cases hz) | (intros; contradiction)
@[simp] theorem tst_inst (a : E) (t : Ty) : tst Φ (.inst a t) = (bnd (opn (ev Φ (.inst a t))) trA) := by rw [tst] <;> first | rfl | (intros; rename_i hz; cases hz) | (intro hz; cases hz) | (intros; contradiction)
@[simp] theorem tst_isN1 (k : Bool) (a : E) : tst Φ (.isN k a) = (bnd (opn (ev Φ (.isN k a))) trA) := by rw [tst] <;> first | rfl | (intros; rename_i hz; cases hz) | (intro hz; cases hz) | (intros; contradiction)
@[simp] theorem tstAn_1 (a : E) : tstAn Φ (.cons a .nil) = (tst Φ a) := by rw [tstAn] <;> first | rfl | (intros; rename_i hz; cases hz) | (intro hz; cases hz) | (intros; contradiction)
@[simp] theorem tstAn_c (a b c : E) : tstAn Φ (.cons a (.cons b c)) = (bnd (tst Φ a) fun k => if k then tstAn Φ (.cons b c) else ret false) := by rw [tstAn] <;> first | rfl | (intros; rename_i hz; cases hz) | (intro hz; cases hz) | (intros; contradiction)
@[simp] theorem tstOr_1 (a : E) : tstOr Φ (.cons a .nil) = (tst Φ a) := by rw [tstOr] <;> first | rfl | (intros; rename_i hz; cases hz) | (intro hz; cases hz) | (intros; contradiction)
@[simp] theorem tstOr_c (a b c : E) : tstOr Φ (.cons a (.cons b c)) = (bnd (tst Φ a) fun k => if k then ret true else tstOr Φ (.cons b c)) := by rw [tstOr] <;> first | rfl | (intros; rename_i hz; cases hz) | (intro hz; cases hz) | (intros; contradiction)
@[simp] theorem tsts_nil : tsts Φ .nil = (ret true) := by rw [tsts] <;> first | rfl | (intros; rename_i hz; cases hz) | (intro hz; cases hz) | (intros; contradiction)
@[simp] theorem tsts_one (a : E) : tsts Φ (.cons a .nil) = (tst Φ a) := by rw [tsts] <;> first | rfl | (intros; rename_i hz; cases hz) | (intro hz; cases hz) | (intros; contradiction)
@[simp] theorem it_enum (fr : Bool) (a : E) : evIt Φ fr (.enum a) = (bnd (bnd (itA fr (ev Φ a)) srcOf) fun p => ret (enumD 0 p.1, p.2)) := by rw [evIt] <;> first | rfl | (intros; rename_i hz; cases hz) | (intro hz; cases hz) | (intros; contradiction)
@[simp] theorem it_var (fr : Bool) (i : Nat) : evIt Φ fr (.var i) = (bnd (itA fr (ev Φ (.var i))) srcOf) := by rw [evIt] <;> first | rfl | (intros; rename_i hz; cases hz) | (intro hz; cases hz) | (intros; contradiction)
@[simp] theorem it_lst (fr : Bool) (l : E) : evIt Φ fr (.lst l) = (bnd (itA fr (ev Φ (.lst l))) srcOf) := by rw [evIt] <;> first | rfl | (intros; rename_i hz; cases hz) | (intro hz; cases hz) | (intros; contradiction)
@[simp] theorem it_slc (fr : Bool) (a l h : E) : evIt Φ fr (.slc a l h) = (bnd (itA fr (ev Φ (.slc a l h))) srcOf) := by rw [evIt] <;> first | rfl | (intros; rename_i hz; cases hz) | (intro hz; cases hz) | (intros; contradiction)
@[simp] theorem it_bin (fr : Bool) (o : BOp) (a b : E) : evIt Φ fr (.bin o a b) = (bnd (itA fr (ev Φ (.bin o a b))) srcOf) := by rw [evIt] <;> first | rfl | (intros; rename_i hz; cases hz) | (intro hz; cases hz) | (intros; contradiction)
@[simp] theorem it_call (fr : Bool) (f : Nat) (l : E) : evIt Φ fr (.call f l) = (bnd (itA fr (ev Φ (.call f l))) srcOf) := by rw [evIt] <;> first | rfl | (intros; rename_i hz; cases hz) | (intro hz; cases hz) | (intros; contradiction)
@[simp] theorem ex_nil : ex Φ .nil = (fun s => .nx s) := by rw [ex] <;> first | rfl | (intros; rename_i hz; cases hz) | (intro hz; cases hz) | (intros; contradiction)
@[simp] theorem ex_asg1 (i : Nat) (e : E) : ex Φ (.asg (.nm i) e) = (fun s => (bnd (ev Φ e) take1 s).so fun v s1 => .nx (s1.set i (some v))) := by rw [ex] <;> first | rfl | (intros; rename_i hz; cases hz) | (intro hz; cases hz) | (intros; contradiction)
@[simp] theorem ex_expr (e : E) : ex Φ (.expr e) = (fun s => (ev Φ e s).so fun _ s1 => .nx s1) := by rw [ex] <;> first | rfl | (intros; rename_i hz; cases hz) | (intro hz; cases hz) | (intros; contradiction)
@[simp] theorem ex_ret (e : E) : ex Φ (.ret e) = (fun s => (bnd (ev Φ e) retA s).so fun r s1 => .ret r s1) := by rw [ex] <;> first | rfl | (intros; rename_i hz; cases hz) | (intro hz; cases hz) | (intros; contradiction)
@[simp] theorem ex_retN : ex Φ .retN = (fun s => .ret (.val .none) s) := by rw [ex] <;> first | rfl | (intros; rename_i hz; cases hz) | (intro hz; cases hz) | (intros; contradiction)
@[simp] theorem ex_ifs (t : E) (a b : S) : ex Φ (.ifs t a b) = (fun s => (tst Φ t s).so fun k s1 => if k then ex Φ a s1 else ex Φ b s1) := by rw [ex] <;> first | rfl | (intros; rename_i hz; cases hz) | (intro hz; cases hz) | (intros; contradiction)
@[simp] theorem ex_whl (t : E) (b : S) : ex Φ (.whl t b) = (whl (tst Φ t) (ex Φ b)) := by rw [ex] <;> first | rfl | (intros; rename_i hz; cases hz) | (intro hz; cases hz) | (intros; contradiction)
@[simp] theorem ex_forr (g : AM.G) (it : E) (b : S) : ex Φ (.forr g it b) = (fun s => (evIt Φ true it s).so fun p s1 => if p.2.isEmpty then forL g (ex Φ b) p.1 s1 else .bad) := by rw [ex] <;> first | rfl | (intros; rename_i hz; cases hz) | (intro hz; cases hz) | (intros; contradiction)
@[simp] theorem ex_rais (c : Nat) (e : E) : ex Φ (.rais c e) = (fun s => (vl (ev Φ e) s).so fun d s1 => .err c d s1) := by rw [ex] <;> first | rfl | (intros; rename_i hz; cases hz) | (intro hz; cases hz) | (intros; contradiction)
@[simp] theorem ex_pass : ex Φ .pass = (fun s => .nx s) := by rw [ex] <;> first | rfl | (intros; rename_i hz; cases hz) | (intro hz; cases hz) | (intros; contradiction)
@[simp] theorem ex_brk : ex Φ .brk = (fun s => .brk s) := by rw [ex] <;> first | rfl | (intros; rename_i hz; cases hz) | (intro hz; cases hz) | (intros; contradiction)
@[simp] theorem ex_cont : ex Φ .cont = (fun s => .ct s) := by rw [ex] <;> first | rfl | (intros; rename_i hz; cases hz) | (intro hz; cases hz) | (intros; contradiction)
@[simp] theorem ev_neg (a : E) (s : AS) : ev Φ (.neg a) s = ((ev Φ a s).bd fun x s => (nz x s).bd fun x s => (rd x s).bd fun d s => (match d with
    | .int i => Out.ok (AV.val (.int (-i))) s
    | _ => .bad)) := by
  rw [ev]
  simp only [bnd_ap, opn, bd_assoc]
  congr 1; funext x s; congr 1; funext x s; congr 1; funext d s
  cases d <;> rfl
@[simp] theorem ev_neg_lit (i : Int) : ev Φ (.neg (.lit (.int i))) = ret (.val (.int (-i))) := by
  funext s
  rw [ev_neg]
  simp
@[simp] theorem it_range1 (fr : Bool) (a : E) (s : AS) : evIt Φ fr (.range1 a) s = ((ev Φ a s).bd fun x s => (fz x s).bd fun d s => rngM d s) := by
  rw [evIt]
  simp only [bnd_ap, vl, bd_assoc]
  congr 1; funext x s; congr 1; funext d s
  cases d <;> first | rfl | (dsimp only [rngM]; split <;> rfl)
def SO.seq (o : SO) (f : AS → SO) : SO := match o with
  | .nx s => f s
  | o => o
@[simp] theorem seq_nx (s : AS) (f : AS → SO) : (SO.nx s).seq f = f s := Eq.trans rfl rfl
@[simp] theorem seq_ret (s : AS) (r : RV) (f : AS → SO) : (SO.ret r s).seq f = .ret r s := Eq.trans rfl rfl
@[simp] theorem seq_err (s : AS) (c : Nat) (w : PyData) (f : AS → SO) : (SO.err c w s).seq f = .err c w s := Eq.trans rfl rfl
@[simp] theorem seq_bad (f : AS → SO) : SO.bad.seq f = .bad := Eq.trans rfl rfl
@[simp] theorem seq_brk (s : AS) (f : AS → SO) : (SO.brk s).seq f = .brk s := Eq.trans rfl rfl
@[simp] theorem seq_ct (s : AS) (f : AS → SO) : (SO.ct s).seq f = .ct s := Eq.trans rfl rfl
@[simp] theorem ex_seq (a r : S) (s : AS) : ex Φ (.seq a r) s = (ex Φ a s).seq (ex Φ r) := by
  rw [ex]
  dsimp only
  cases ex Φ a s <;> rfl
@[simp] theorem ex_asgT (gs : AM.G) (e : E) (s : AS) : ex Φ (.asg (.tp gs) e) s = ((ev Φ e s).so fun x s => (fz x s).so fun d s => (match bindG (.tp gs) d s with
    | some s2 => .nx s2
    | none => .bad)) := by
  rw [ex]
  · simp only [vl, bnd_ap, bd_so] <;> rfl
  · intro i z
    cases z
@[simp] theorem ex_par (is : List Nat) (l : E) (s : AS) : ex Φ (.par is l) s = ((evs Φ l s).so fun as s => (fzs as s).so fun ds s => (match setAll is ds s with
    | some s2 => .nx s2
    | none => .bad)) := by
  rw [ex]
  simp only [bnd_ap, bd_so] <;> rfl
@[simp] theorem fzs_nil (s : AS) : fzs [] s = .ok [] s := Eq.trans rfl rfl
@[simp] theorem fzs_cons (a : AV) (r : List AV) (s : AS) : fzs (a :: r) s = ((fz a s).bd fun d s => (fzs r s).bd fun ds s => .ok (d :: ds) s) := Eq.trans rfl rfl
@[simp] theorem rds_nil (s : AS) : rds [] s = .ok [] s := Eq.trans rfl rfl
@[simp] theorem rds_cons (a : AV) (r : List AV) (s : AS) : rds (a :: r) s = ((rd a s).bd fun d s => (rds r s).bd fun ds s => .ok (d :: ds) s) := Eq.trans rfl rfl
@[simp] theorem vl_ap (m : M AV) : vl m = fun s => ((m s).bd fun x s => fz x s) := Eq.trans rfl rfl
@[simp] theorem opn_ap (m : M AV) : opn m = fun s => ((m s).bd fun x s => nz x s) := Eq.trans rfl rfl
@[simp] theorem bin2_ap (o : BOp) (a b : M AV) : bin2 o a b = fun s => ((a s).bd fun x s => (nz x s).bd fun x s => (b s).bd fun y s => (nz y s).bd fun y s => (rd x s).bd fun d s => (rd y s).bd fun e s => lift (binD o d e) s) := by
  funext s
  simp only [bin2, bnd_ap, opn_ap, bd_assoc]
@[simp] theorem cmp2_ap (o : COp) (a b : M AV) : cmp2 o a b = fun s => ((a s).bd fun x s => (nz x s).bd fun x s => (b s).bd fun y s => (nz y s).bd fun y s => (rd x s).bd fun d s => (rd y s).bd fun e s => lift (cmpD o d e) s) := by
  funext s
  simp only [cmp2, bnd_ap, opn_ap, bd_assoc]
@[simp] theorem chn3_ap (o o' : COp) (a b c : M AV) : chn3 o o' a b c = fun s => ((a s).bd fun x s => (nz x s).bd fun x s => (b s).bd fun y s => (nz y s).bd fun y s => (rd x s).bd fun d s => (rd y s).bd fun e s => (lift (cmpD o d e) s).bd fun k s =>
    if k = true then ((c s).bd fun z s => (nz z s).bd fun z s => (rd y s).bd fun e s => (rd z s).bd fun h s => lift (cmpD o' e h) s) else .ok false s) := by
  funext s
  simp only [chn3, bnd_ap, opn_ap, bd_assoc]
  congr 1; funext x s; congr 1; funext x s; congr 1; funext y s; congr 1; funext y s; congr 1; funext d s; congr 1; funext e s; congr 1; funext k s
  cases k <;> simp
@[simp] theorem if_ap {α} (c : Prop) [Decidable c] (m n : M α) (s : AS) : (if c then m else n) s = if c then m s else n s := by split <;> rfl
@[simp] theorem trA_ap (a : AV) : trA a = fun s => ((rd a s).bd fun d s => lift (trD d) s) := Eq.trans rfl rfl
@[simp] theorem itA_t (m : M AV) : itA true m = fun s => ((m s).bd fun x s => (fz x s).bd fun d s => .ok (AV.val d) s) := by
  funext s
  simp [itA]
@[simp] theorem itA_f (m : M AV) : itA false m = fun s => ((m s).bd fun x s => nz x s) := Eq.trans rfl rfl
@[simp] theorem srcOf_ap (a : AV) : srcOf a = fun s => ((rd a s).bd fun d s => lift (srcD a d) s) := Eq.trans rfl rfl
end
@[simp] theorem rd_bor (i : Nat) (s : AS) : rd (.bor i) s = (match sl s i with
    | some (.own _ xs) => .ok (.list xs) s
    | some (.val d) => .ok d s
    | _ => .bad) := by
  unfold rd rdo
  dsimp only
  cases h : sl s i with
  | none => rfl
  | some sv => cases sv <;> rfl
@[simp] theorem fz_bor (i : Nat) (s : AS) : fz (.bor i) s = (match sl s i with
    | some (.own false xs) => .ok (.list xs) (s.set i (some (.val (.list xs))))
    | some (.val d) => .ok d s
    | _ => .bad) := rfl
@[simp] theorem take_bor (i : Nat) (s : AS) : take1 (.bor i) s = ((fz (.bor i) s).bd fun d s => .ok (.val d) s) := Eq.trans rfl rfl
@[simp] theorem retA_bor (i : Nat) (s : AS) : retA (.bor i) s = (match sl s i with
    | some (.own false xs) => .ok (.new xs) (s.set i none)
    | some (.val d) => .ok (.val d) s
    | _ => .bad) := rfl
theorem fits_of {n : Nat} (h : n ≤ 1000000) : fits n = true := by
  unfold fits
  exact decide_eq_true (Nat.le_trans h (by rw [sizeLine_eq]; decide))

theorem go_succ (Γ : Prog) (n f : Nat) (args : List FArg) {fd : FDef} (h : Γ.fns[f]? = some fd) : (phi Γ (n + 1)).go f args = runF (phi Γ n) fd args := by
  show (match Γ.fns[f]? with
    | some fd => runF (phi Γ n) fd args
    | none => .bad) = _
  rw [h]
end AM
set_option Elab.async false
set_option linter.all false
set_option maxRecDepth 100000
set_option maxHeartbeats 4000000
namespace AM
open PySem
/-! ### walks of data -/
theorem compL_pure {gs : List (Nat × List PyData)} {own : List Nat} {g : AM.G} {tests : M Bool} {elt : M PyData} {s0 : AS} (p : PyData → Bool) (f : PyData → PyData) (hw : wipeA s0 own = s0) (hc : chk gs s0 = true) :
    ∀ ds : List PyData, (∀ d ∈ ds, ∃ s1, bindG g d s0 = some s1 ∧ tests s1 = .ok (p d) s1 ∧ (p d = true → elt s1 = .ok (f d) s1) ∧ wipeA s1 own = s0) → compL gs own g tests elt ds s0 = .ok ((ds.filter p).map f) s0
  | [], _ => by simp [compL, hc]
  | d :: ds, h => by
    obtain ⟨s1, h1, h2, h3, h4⟩ := h d (List.mem_cons_self ..)
    have ih := compL_pure p f hw hc ds fun x m => h x (List.mem_cons_of_mem _ m)
    unfold compL
    rw [if_pos hc, hw, h1]
    dsimp only
    rw [h2]
    cases hp : p d with
    | true =>
      dsimp only
      rw [h3 hp]
      dsimp only
      rw [h4]
      show (compL gs own g tests elt ds s0).bd _ = _
      rw [ih]
      simp [hp]
    | false =>
      dsimp only
      rw [h4, ih]
      simp [hp]
theorem compM_pure {src : Src} {own : List Nat} {g : AM.G} {tests : M Bool} {elt : M PyData} {s s0 : AS} (p : PyData → Bool) (f : PyData → PyData) (h0 : ((own.any fun v => isOwn (sl s v)) || (src.2.any fun p => own.contains p.1)) = false) (hs : wipeA s own = s0) (hw : wipeA s0 own = s0) (hc : chk src.2 s0 = true)
    (h : ∀ d ∈ src.1, ∃ s1, bindG g d s0 = some s1 ∧ tests s1 = .ok (p d) s1 ∧ (p d = true → elt s1 = .ok (f d) s1) ∧ wipeA s1 own = s0) (hl : src.1.length ≤ 1000000) :
    compM src own g tests elt s = .ok (.new ((src.1.filter p).map f)) (backA s s0 own) := by
  unfold compM
  rw [h0, hs, compL_pure p f hw hc src.1 h]
  have : fits ((src.1.filter p).map f).length = true := fits_of (by
    rw [List.length_map]
    exact Nat.le_trans (List.length_filter_le ..) hl)
  simp only [this]
  rfl
/-- a comprehension whose terms change things -/
theorem compL_inv {own : List Nat} {g : AM.G} {tests : M Bool} {elt : M PyData} (I : Nat → AS → Prop) (P : PyData → Prop) {N : Nat} :
    ∀ (ds : List PyData) (k : Nat) (s : AS), k + ds.length ≤ N → (∀ d ∈ ds, ∀ k s, k < N → I k s → ∃ s1 s2 x s3, bindG g d (wipeA s own) = some s1 ∧ tests s1 = .ok true s2 ∧ elt s2 = .ok x s3 ∧ P x ∧ I (k + 1) (wipeA s3 own)) → I k s →
      ∃ xs s', compL [] own g tests elt ds s = .ok xs s' ∧ xs.length = ds.length ∧ (∀ x ∈ xs, P x) ∧ I (k + ds.length) s'
  | [], k, s, _, _, hi => ⟨[], s, by simp [compL, chk], rfl, by simp, hi⟩
  | d :: ds, k, s, hN, h, hi => by
    simp only [List.length_cons] at hN
    obtain ⟨s1, s2, x, s3, h1, h2, h3, h4, h5⟩ := h d (List.mem_cons_self ..) k s (by omega) hi
    obtain ⟨xs, s', g1, g2, g3, g4⟩ := compL_inv I P ds (k + 1) _ (by omega) (fun d m => h d (List.mem_cons_of_mem _ m)) h5
    refine ⟨x :: xs, s', ?_, by simp [g2], ?_, ?_⟩
    · unfold compL
      have hc : chk [] s = true := rfl
      rw [if_pos hc, h1]
      dsimp only
      rw [h2]
      dsimp only
      rw [h3]
      show (compL [] own g tests elt ds (wipeA s3 own)).bd _ = _
      rw [g1]
      rfl
    · intro y m
      rcases List.mem_cons.mp m with rfl | m
      · exact h4
      · exact g3 y m
    · have : k + (d :: ds).length = k + 1 + ds.length := by simp only [List.length_cons]; omega
      rw [this]
      exact g4
theorem compM_inv {ds : List PyData} {own : List Nat} {g : AM.G} {tests : M Bool} {elt : M PyData} {s : AS} (I : Nat → AS → Prop) (P : PyData → Prop) (h0 : (own.any fun v => isOwn (sl s v)) = false) (hi : I 0 (wipeA s own)) (hl : ds.length ≤ 1000000)
    (h : ∀ d ∈ ds, ∀ k s, k < ds.length → I k s → ∃ s1 s2 x s3, bindG g d (wipeA s own) = some s1 ∧ tests s1 = .ok true s2 ∧ elt s2 = .ok x s3 ∧ P x ∧ I (k + 1) (wipeA s3 own)) :
    ∃ xs s', compM (ds, []) own g tests elt s = .ok (.new xs) (backA s s' own) ∧ xs.length = ds.length ∧ (∀ x ∈ xs, P x) ∧ I ds.length s' := by
  obtain ⟨xs, s', g1, g2, g3, g4⟩ := compL_inv (elt := elt) (tests := tests) I P ds 0 _ (Nat.le_of_eq (Nat.zero_add _)) h hi
  refine ⟨xs, s', ?_, g2, g3, by rw [Nat.zero_add] at g4; exact g4⟩
  unfold compM
  dsimp only
  rw [h0, g1]
  have : fits xs.length = true := fits_of (by omega)
  simp [this]
theorem forL_inv {g : AM.G} {b : AS → SO} (I : Nat → AS → Prop) :
    ∀ (ds : List PyData) (k : Nat) (s : AS), (∀ d ∈ ds, ∀ k s, I k s → ∃ s1 s2, bindG g d s = some s1 ∧ b s1 = .nx s2 ∧ I (k + 1) s2) → I k s → ∃ s', forL g b ds s = .nx s' ∧ I (k + ds.length) s'
  | [], k, s, _, hi => ⟨s, rfl, hi⟩
  | d :: ds, k, s, h, hi => by
    obtain ⟨s1, s2, h1, h2, h3⟩ := h d (List.mem_cons_self ..) k s hi
    obtain ⟨s', g1, g2⟩ := forL_inv I ds (k + 1) s2 (fun d m => h d (List.mem_cons_of_mem _ m)) h3
    refine ⟨s', ?_, ?_⟩
    · unfold forL
      rw [h1]
      dsimp only
      rw [h2]
      exact g1
    · have : k + (d :: ds).length = k + 1 + ds.length := by simp only [List.length_cons]; omega
      rw [this]
      exact g2
/-- a walk that may return -/
theorem forL_find {g : AM.G} {b : AS → SO} (I J : AS → Prop) (p : PyData → Bool) (R : PyData → RV) :
    ∀ (ds : List PyData) (s : AS), (∀ d ∈ ds, ∀ s, I s → ∃ s1, bindG g d s = some s1 ∧ (p d = true → ∃ s2, b s1 = .ret (R d) s2 ∧ J s2) ∧ (p d = false → ∃ s2, b s1 = .nx s2 ∧ I s2)) → I s →
      (∀ d, ds.find? p = some d → ∃ s', forL g b ds s = .ret (R d) s' ∧ J s') ∧ (ds.find? p = none → ∃ s', forL g b ds s = .nx s' ∧ I s')
  | [], s, _, hi => ⟨fun d h => (by cases h), fun _ => ⟨s, rfl, hi⟩⟩
  | d :: ds, s, h, hi => by
    obtain ⟨s1, h1, h2, h3⟩ := h d (List.mem_cons_self ..) s hi
    cases hp : p d with
    | true =>
      obtain ⟨s2, h4, h5⟩ := h2 hp
      refine ⟨fun x hx => ?_, fun hx => ?_⟩
      · simp only [List.find?, hp] at hx
        cases hx
        exact ⟨s2, by simp [forL, h1, h4], h5⟩
      · simp only [List.find?, hp] at hx
        cases hx
    | false =>
      obtain ⟨s2, h4, h5⟩ := h3 hp
      obtain ⟨g1, g2⟩ := forL_find I J p R ds s2 (fun d m => h d (List.mem_cons_of_mem _ m)) h5
      have e : forL g b (d :: ds) s = forL g b ds s2 := by simp [forL, h1, h4]
      rw [e]
      simp only [List.find?, hp]
      exact ⟨g1, g2⟩

/-! ### data -/
theorem eqOk_l {d : PyData} (h : d.canLay0 = true) : eqOk d (.list []) = true := by
  unfold eqOk
  have h1 : PyData.canLay0 (.list []) = true := rfl
  have : min d.depth (PyData.list []).depth ≤ 64 := Nat.le_trans (Nat.min_le_right ..) (by decide)
  simp [h, h1, this]
theorem eqOk_t {d : PyData} (h : d.canLay0 = true) : eqOk d (.tuple []) = true := by
  unfold eqOk
  have h1 : PyData.canLay0 (.tuple []) = true := rfl
  have : min d.depth (PyData.tuple []).depth ≤ 64 := Nat.le_trans (Nat.min_le_right ..) (by decide)
  simp [h, h1, this]
@[simp] theorem eqv_l (xs : List PyData) : PyData.eqv (.list xs) (.list []) = xs.isEmpty := by
  cases xs <;> simp [PyData.eqv, PyData.eqvAll]
@[simp] theorem eqv_t (xs : List PyData) : PyData.eqv (.tuple xs) (.tuple []) = xs.isEmpty := by
  cases xs <;> simp [PyData.eqv, PyData.eqvAll]
@[simp] theorem cmp_ne_i (i j : Int) : cmpD .ne (.int i) (.int j) = some (i != j) := by
  simp [cmpD, eqOk, scalD, PyData.eqv, bne]
@[simp] theorem cmp_eq_i (i j : Int) : cmpD .eq (.int i) (.int j) = some (i == j) := by
  simp [cmpD, eqOk, scalD, PyData.eqv]
theorem cmp_ne_l {xs : List PyData} (h : PyData.canLayAll0 xs = true) : cmpD .ne (.list xs) (.list []) = some (!xs.isEmpty) := by
  have : PyData.canLay0 (.list xs) = true := by rw [PyData.canLay0]; exact h
  simp [cmpD, eqOk_l this]
theorem cmp_eq_l {xs : List PyData} (h : PyData.canLayAll0 xs = true) : cmpD .eq (.list xs) (.list []) = some xs.isEmpty := by
  have : PyData.canLay0 (.list xs) = true := by rw [PyData.canLay0]; exact h
  simp [cmpD, eqOk_l this]
theorem atI_of {α : Type} {xs : List α} {i : Nat} (h : i < xs.length) : L2.atI xs (i : Int) = some xs[i] := by
  unfold L2.atI L2.ixN
  have h1 : (0 : Int) ≤ (i : Int) := by omega
  have h2 : (i : Int) < (xs.length : Int) := by omega
  simp [h2, h]
end AM
set_option Elab.async false
set_option linter.all false
set_option maxRecDepth 100000
set_option maxHeartbeats 4000000
namespace AM
open PySem
/-! ### calls, and what is asked of data -/
def fin0 (r : FR) (s : AS) : Out AV := match r with
  | .ret v _ => .ok (rvA v) s
  | .err c w _ => .err c w s
  | .bad => .bad
@[simp] theorem fin0_val (d : PyData) (l) (s : AS) : fin0 (.ret (.val d) l) s = .ok (.val d) s := Eq.trans rfl rfl
@[simp] theorem fin0_new (d : List PyData) (l) (s : AS) : fin0 (.ret (.new d) l) s = .ok (.new d) s := Eq.trans rfl rfl
@[simp] theorem fin0_err (c : Nat) (d : PyData) (l) (s : AS) : fin0 (.err c d l) s = .err c d s := Eq.trans rfl rfl
theorem prep_v : ∀ (ds : List PyData) (bs : List Bool) (s : AS), prep (ds.map .val) bs s = some (ds.map .val, [], s)
  | [], _, _ => rfl
  | d :: ds, bs, s => by
    show prep (.val d :: ds.map .val) bs s = _
    unfold prep
    cases bs.headD false <;> simp [fz, ret, prep_v ds]
theorem callA_v (Φ : Calls) (f : Nat) (ds : List PyData) (s : AS) : callA Φ f (ds.map .val) s = fin0 (Φ.go f (ds.map .val)) s := by
  unfold callA
  rw [prep_v]
  dsimp only
  cases Φ.go f (ds.map .val) <;> rfl
section
variable (Φ : Calls) (f : Nat) (s : AS)
@[simp] theorem callA_v1 (a : PyData) : callA Φ f [.val a] s = fin0 (Φ.go f [.val a]) s := callA_v Φ f [a] s
@[simp] theorem callA_v2 (a b : PyData) : callA Φ f [.val a, .val b] s = fin0 (Φ.go f [.val a, .val b]) s := callA_v Φ f [a, b] s
@[simp] theorem callA_v3 (a b c : PyData) : callA Φ f [.val a, .val b, .val c] s = fin0 (Φ.go f [.val a, .val b, .val c]) s := callA_v Φ f [a, b, c] s
/-- the jar is lent -/
def fin1 (r : FR) (b : Bool) (s : AS) : Out AV := match r with
  | .ret v [ys] => .ok (rvA v) (some (.own b ys) :: s)
  | _ => .bad
@[simp] theorem fin1_val (d : PyData) (ys) (b : Bool) (s : AS) : fin1 (.ret (.val d) [ys]) b s = .ok (.val d) (some (.own b ys) :: s) := Eq.trans rfl rfl
@[simp] theorem fin1_new (d : List PyData) (ys) (b : Bool) (s : AS) : fin1 (.ret (.new d) [ys]) b s = .ok (.new d) (some (.own b ys) :: s) := Eq.trans rfl rfl
theorem callA_j {r : FR} {v : RV} {ys xs : List PyData} {ds : List PyData} {b : Bool} (hb : (Φ.by_ f).headD false = true) (h : Φ.go f (.io xs :: ds.map .val) = .ret v [ys]) : callA Φ f (.bor 0 :: ds.map .val) (some (.own b xs) :: s) = .ok (rvA v) (some (.own b ys) :: s) := by
  unfold callA
  have : prep (.bor 0 :: ds.map .val) (Φ.by_ f) (some (.own b xs) :: s) = some (.io xs :: ds.map .val, [0], some (.own b xs) :: s) := by
    unfold prep
    rw [hb]
    simp [prep_v]
  rw [this]
  dsimp only
  rw [h]
  simp [putIos, setOwn]
end
@[simp] theorem trD_b (b : Bool) : trD (.bool b) = some b := Eq.trans rfl rfl
@[simp] theorem trD_i (i : Int) : trD (.int i) = some (i != 0) := Eq.trans rfl rfl
@[simp] theorem trD_l (i : List PyData) : trD (.list i) = some (!i.isEmpty) := Eq.trans rfl rfl
@[simp] theorem trD_t (i : List PyData) : trD (.tuple i) = some (!i.isEmpty) := Eq.trans rfl rfl
@[simp] theorem cmp_lt_i (i j : Int) : cmpD .lt (.int i) (.int j) = some (decide (i < j)) := Eq.trans rfl rfl
@[simp] theorem cmp_le_i (i j : Int) : cmpD .le (.int i) (.int j) = some (decide (i ≤ j)) := Eq.trans rfl rfl
@[simp] theorem cmp_gt_i (i j : Int) : cmpD .gt (.int i) (.int j) = some (decide (j < i)) := Eq.trans rfl rfl
@[simp] theorem cmp_ge_i (i j : Int) : cmpD .ge (.int i) (.int j) = some (decide (j ≤ i)) := Eq.trans rfl rfl
@[simp] theorem bin_add_i (i j : Int) : binD .add (.int i) (.int j) = some (.val (.int (i + j))) := Eq.trans rfl rfl
@[simp] theorem bin_sub_i (i j : Int) : binD .sub (.int i) (.int j) = some (.val (.int (i - j))) := Eq.trans rfl rfl
@[simp] theorem len_l (xs : List PyData) : bltD .len [.list xs] = some (.val (.int xs.length)) := Eq.trans rfl rfl
@[simp] theorem len_t (xs : List PyData) : bltD .len [.tuple xs] = some (.val (.int xs.length)) := Eq.trans rfl rfl
@[simp] theorem int_i (i : Int) : bltD .int [.int i] = some (.val (.int i)) := Eq.trans rfl rfl
@[simp] theorem max_i (i j : Int) : bltD .max [.int i, .int j] = some (.val (.int (if j > i then j else i))) := Eq.trans rfl rfl
@[simp] theorem min_i (i j : Int) : bltD .min [.int i, .int j] = some (.val (.int (if j < i then j else i))) := Eq.trans rfl rfl
@[simp] theorem tup_l (xs : List PyData) : bltD .tuple [.list xs] = some (.val (.tuple xs)) := Eq.trans rfl rfl
@[simp] theorem lst_t (xs : List PyData) : bltD .list [.tuple xs] = some (.new xs) := Eq.trans rfl rfl
@[simp] theorem slc_t (xs : List PyData) (a b) : slcD (.tuple xs) a b = some (.val (.tuple (cutD xs a b))) := Eq.trans rfl rfl
@[simp] theorem rev_t (xs : List PyData) : revD (.tuple xs) = some (.val (.tuple xs.reverse)) := Eq.trans rfl rfl
@[simp] theorem part_i (i : Int) : partD (.int i) = some (some i) := Eq.trans rfl rfl
@[simp] theorem ix_t (xs : List PyData) (i : Int) : ixD (.tuple xs) (.int i) = L2.atI xs i := Eq.trans rfl rfl
@[simp] theorem ix_l (xs : List PyData) (i : Int) : ixD (.list xs) (.int i) = L2.atI xs i := Eq.trans rfl rfl
@[simp] theorem src_l (a : AV) (xs : List PyData) : srcD a (.list xs) = some (xs, gd a xs) := Eq.trans rfl rfl
@[simp] theorem src_t (a : AV) (xs : List PyData) : srcD a (.tuple xs) = some (xs, []) := Eq.trans rfl rfl
@[simp] theorem gd_v (d : PyData) (xs : List PyData) : gd (.val d) xs = [] := Eq.trans rfl rfl
@[simp] theorem gd_n (d : List PyData) (xs : List PyData) : gd (.new d) xs = [] := Eq.trans rfl rfl
@[simp] theorem isNone_none : isNone .none = true := Eq.trans rfl rfl
@[simp] theorem isNone_int (i : Int) : isNone (.int i) = false := Eq.trans rfl rfl
@[simp] theorem isNone_tup (i) : isNone (.tuple i) = false := Eq.trans rfl rfl
@[simp] theorem by_phi (Γ : Prog) (n f : Nat) : (phi Γ n).by_ f = ((Γ.fns[f]?).map (·.by_)).getD [] := by cases n <;> rfl
theorem cut_drop {xs : List PyData} {k : Nat} : cutD xs (some (k : Int)) none = xs.drop k := by
  unfold cutD
  rw [HT.sIx_nat, HT.sIx_none]
  rcases Nat.le_total k xs.length with h | h
  · rw [Nat.min_eq_left h, List.take_of_length_le (by rw [List.length_drop]; omega)]
  · rw [Nat.min_eq_right h, List.drop_of_length_le (Nat.le_refl _), List.drop_of_length_le h]
    simp
theorem cut_take {xs : List PyData} {k : Nat} : cutD xs none (some (k : Int)) = xs.take k := by
  unfold cutD
  rw [HT.sIx_nat, HT.sIx_none]
  rcases Nat.le_total k xs.length with h | h
  · rw [Nat.min_eq_left h]; rfl
  · rw [Nat.min_eq_right h, List.take_of_length_le h]
    exact List.take_of_length_le (by simp)
theorem cut_init {xs : List PyData} : cutD xs none (some (-1)) = xs.take (xs.length - 1) := by
  unfold cutD
  have : HT.sIx xs.length xs.length (some (-1)) = xs.length - 1 := by
    show (if (-1 : Int) < 0 then ((-1 : Int) + (xs.length : Int)).toNat else min (-1 : Int).toNat xs.length) = _
    rw [if_pos (by decide)]
    omega
  rw [this, HT.sIx_none]
  rfl
theorem cut_dropI {xs : List PyData} {i : Int} (h : 0 ≤ i) : cutD xs (some i) none = xs.drop i.toNat := by
  obtain ⟨k, rfl⟩ := Int.eq_ofNat_of_zero_le h
  exact cut_drop
theorem cut_takeI {xs : List PyData} {i : Int} (h : 0 ≤ i) : cutD xs none (some i) = xs.take i.toNat := by
  obtain ⟨k, rfl⟩ := Int.eq_ofNat_of_zero_le h
  exact cut_take
@[simp] theorem cut_1 (xs : List PyData) : cutD xs (some 1) none = xs.tail := by rw [← List.drop_one]; exact cut_drop (k := 1)
theorem atI_ofI {α : Type} {xs : List α} {i : Int} (h0 : 0 ≤ i) (h : i < xs.length) : ∃ x, L2.atI xs i = some x ∧ xs[i.toNat]? = some x := by
  obtain ⟨k, rfl⟩ := Int.eq_ofNat_of_zero_le h0
  have : k < xs.length := by omega
  exact ⟨xs[k], atI_of this, by simp [this]⟩
@[simp] theorem atI_0 {α : Type} (x : α) (xs : List α) : L2.atI (x :: xs) 0 = some x := by
  have := atI_of (xs := x :: xs) (i := 0) (by simp)
  exact this
@[simp] theorem wipe_1 (s : AS) (v : Nat) : wipeA s [v] = s.set v none := Eq.trans rfl rfl
@[simp] theorem back_1 (s0 s : AS) (v : Nat) : backA s0 s [v] = s.set v (sl s0 v) := Eq.trans rfl rfl
@[simp] theorem fits_0 : fits 0 = true := fits_of (Nat.le_of_ble_eq_true rfl)
@[simp] theorem fits_1 : fits 1 = true := fits_of (Nat.le_of_ble_eq_true rfl)
@[simp] theorem fits_2 : fits 2 = true := fits_of (Nat.le_of_ble_eq_true rfl)
@[simp] theorem fits_3 : fits 3 = true := fits_of (Nat.le_of_ble_eq_true rfl)
@[simp] theorem fits_4 : fits 4 = true := fits_of (Nat.le_of_ble_eq_true rfl)
@[simp] theorem fits_5 : fits 5 = true := fits_of (Nat.le_of_ble_eq_true rfl)
@[simp] theorem fits_6 : fits 6 = true := fits_of (Nat.le_of_ble_eq_true rfl)
@[simp] theorem fits_7 : fits 7 = true := fits_of (Nat.le_of_ble_eq_true rfl)
@[simp] theorem fits_8 : fits 8 = true := fits_of (Nat.le_of_ble_eq_true rfl)
@[simp] theorem fits_9 : fits 9 = true := fits_of (Nat.le_of_ble_eq_true rfl)
@[simp] theorem fits_10 : fits 10 = true := fits_of (Nat.le_of_ble_eq_true rfl)
@[simp] theorem fits_11 : fits 11 = true := fits_of (Nat.le_of_ble_eq_true rfl)
@[simp] theorem fits_12 : fits 12 = true := fits_of (Nat.le_of_ble_eq_true rfl)
@[simp] theorem fits_13 : fits 13 = true := fits_of (Nat.le_of_ble_eq_true rfl)
@[simp] theorem fits_14 : fits 14 = true := fits_of (Nat.le_of_ble_eq_true rfl)
@[simp] theorem fits_15 : fits 15 = true := fits_of (Nat.le_of_ble_eq_true rfl)
@[simp] theorem fits_16 : fits 16 = true := fits_of (Nat.le_of_ble_eq_true rfl)
@[simp] theorem fits_17 : fits 17 = true := fits_of (Nat.le_of_ble_eq_true rfl)
@[simp] theorem fits_18 : fits 18 = true := fits_of (Nat.le_of_ble_eq_true rfl)
@[simp] theorem fits_19 : fits 19 = true := fits_of (Nat.le_of_ble_eq_true rfl)
@[simp] theorem fits_20 : fits 20 = true := fits_of (Nat.le_of_ble_eq_true rfl)
@[simp] theorem fits_21 : fits 21 = true := fits_of (Nat.le_of_ble_eq_true rfl)
@[simp] theorem fits_22 : fits 22 = true := fits_of (Nat.le_of_ble_eq_true rfl)
@[simp] theorem fits_23 : fits 23 = true := fits_of (Nat.le_of_ble_eq_true rfl)
@[simp] theorem fits_24 : fits 24 = true := fits_of (Nat.le_of_ble_eq_true rfl)
@[simp] theorem fits_25 : fits 25 = true := fits_of (Nat.le_of_ble_eq_true rfl)
theorem seq_if (c : Prop) [Decidable c] (a b : SO) (f : AS → SO) : (if c then a else b).seq f = if c then a.seq f else b.seq f := by split <;> rfl
end AM
set_option Elab.async false
set_option linter.all false
set_option maxRecDepth 100000
set_option maxHeartbeats 4000000
namespace AM
open PySem
theorem whN_mono {c : M Bool} {b : AS → SO} : ∀ {n : Nat} {s : AS} {o : SO} (k : Nat), whN c b n s = some o → whN c b (n + k) s = some o
  | 0, s, o, k, h => by cases h
  | n + 1, s, o, k, h => by
    rw [show n + 1 + k = (n + k) + 1 by omega]
    unfold whN at h ⊢
    split
    · rename_i s1 e
      rw [e] at h
      dsimp only at h
      split
      · rename_i s2 e2
        rw [e2] at h
        exact whN_mono k h
      · rename_i s2 e2
        rw [e2] at h
        exact whN_mono k h
      · rename_i s2 e2
        rw [e2] at h
        exact h
      · rename_i o' h1 h2 h3
        generalize b s1 = z at *
        cases z <;> first | exact h | exact absurd rfl (h1 _) | exact absurd rfl (h2 _) | exact absurd rfl (h3 _)
    · rename_i s1 e
      rw [e] at h
      exact h
    · rename_i e
      rw [e] at h
      exact h
    · rename_i e
      rw [e] at h
      exact h
theorem whl_of {c : M Bool} {b : AS → SO} {n : Nat} {s : AS} {o : SO} (h : whN c b n s = some o) : whl c b s = o := by
  have hx : ∃ n, ∃ o, whN c b n s = some o := ⟨n, o, h⟩
  unfold whl
  rw [dif_pos hx]
  have h2 := Classical.choose_spec (Classical.choose_spec hx)
  have h3 := whN_mono n h2
  have h4 := whN_mono (Classical.choose hx) h
  rw [Nat.add_comm] at h3
  rw [h3] at h4
  exact Option.some.inj h4
/-- a loop with a measure -/
theorem whl_meas {c : M Bool} {b : AS → SO} (I : Nat → AS → Prop) (h : ∀ n s, I n s → (∃ s1, c s = .ok false s1 ∧ I 0 s1) ∨ ∃ s1 s2 k, c s = .ok true s1 ∧ b s1 = .nx s2 ∧ k < n ∧ I k s2) (n : Nat) (s : AS) (hi : I n s) : ∃ s', whl c b s = .nx s' ∧ I 0 s' := by
  have : ∃ m s', whN c b m s = some (.nx s') ∧ I 0 s' := by
    induction n using Nat.strongRecOn generalizing s with
    | ind n ih =>
      rcases h n s hi with ⟨s1, h1, h2⟩ | ⟨s1, s2, k, h1, h2, h3, h4⟩
      · exact ⟨1, s1, by simp [whN, h1], h2⟩
      · obtain ⟨m, s', g1, g2⟩ := ih k h3 s2 h4
        exact ⟨m + 1, s', by simp [whN, h1, h2, g1], g2⟩
  obtain ⟨m, s', g1, g2⟩ := this
  exact ⟨s', whl_of g1, g2⟩
end AM
namespace AM
open PySem
@[simp] theorem bindG_nm (i : Nat) (d : PyData) (s : AS) : bindG (.nm i) d s = some (s.set i (some (.val d))) := Eq.trans rfl rfl
@[simp] theorem bindG_tp (g : AM.G) (ds : List PyData) (s : AS) : bindG (.tp g) (.tuple ds) s = bindGs g ds s := Eq.trans rfl rfl
@[simp] theorem bindGs_nil (s : AS) : bindGs .nil [] s = some s := Eq.trans rfl rfl
@[simp] theorem bindGs_cons (g gs : AM.G) (d : PyData) (ds : List PyData) (s : AS) : bindGs (.cons g gs) (d :: ds) s = (bindG g d s).bind (bindGs gs ds) := Eq.trans rfl rfl
end AM
namespace AM
open PySem
def setM (p : PyData × AV × PyData) (s : AS) : SO := match p.2.1, p.2.2 with
  | .bor j, .int n => (match sl s j with
    | some (.own b xs) => (match L2.ixN xs.length n with
      | some m => .nx (s.set j (some (.own b (xs.set m p.1))))
      | none => .bad)
    | _ => .bad)
  | _, _ => .bad
@[simp] theorem ex_setIx (Φ : Calls) (i : Nat) (k e : E) (s : AS) : ex Φ (.setIx i k e) s = ((ev Φ e s).so fun x s => (fz x s).so fun d s => (ev Φ (.var i) s).so fun o s => (nz o s).so fun o s => (ev Φ k s).so fun n s => (fz n s).so fun n s => setM (d, o, n) s) := by
  rw [ex]
  simp only [vl_ap, opn_ap, bnd_ap, bd_so, bd_assoc, ret_ap, so_ok]
  rfl
end AM
namespace AM
open PySem
section
variable (Φ : Calls) (f : Nat) (s : AS)
theorem callA_j0 {v : RV} {ys xs : List PyData} {b : Bool} (hb : (Φ.by_ f).headD false = true) (h : Φ.go f [.io xs] = .ret v [ys]) : callA Φ f [.bor 0] (some (.own b xs) :: s) = .ok (rvA v) (some (.own b ys) :: s) := callA_j Φ f s (r := .bad) (ds := []) hb h
theorem callA_j1 {v : RV} {ys xs : List PyData} {b : Bool} {d : PyData} (hb : (Φ.by_ f).headD false = true) (h : Φ.go f [.io xs, .val d] = .ret v [ys]) : callA Φ f [.bor 0, .val d] (some (.own b xs) :: s) = .ok (rvA v) (some (.own b ys) :: s) := callA_j Φ f s (r := .bad) (ds := [d]) hb h
theorem callA_j2 {v : RV} {ys xs : List PyData} {b : Bool} {d e : PyData} (hb : (Φ.by_ f).headD false = true) (h : Φ.go f [.io xs, .val d, .val e] = .ret v [ys]) : callA Φ f [.bor 0, .val d, .val e] (some (.own b xs) :: s) = .ok (rvA v) (some (.own b ys) :: s) := callA_j Φ f s (r := .bad) (ds := [d, e]) hb h
end
end AM
namespace AM
open PySem
/-- a walk that may raise -/
theorem forL_err {g : AM.G} {b : AS → SO} (I J : AS → Prop) (p : PyData → Bool) (c : Nat) (R : PyData → PyData) :
    ∀ (ds : List PyData) (s : AS), (∀ d ∈ ds, ∀ s, I s → ∃ s1, bindG g d s = some s1 ∧ (p d = true → ∃ s2, b s1 = .err c (R d) s2 ∧ J s2) ∧ (p d = false → ∃ s2, b s1 = .nx s2 ∧ I s2)) → I s →
      (∀ d, ds.find? p = some d → ∃ s', forL g b ds s = .err c (R d) s' ∧ J s') ∧ (ds.find? p = none → ∃ s', forL g b ds s = .nx s' ∧ I s')
  | [], s, _, hi => ⟨fun d h => (by cases h), fun _ => ⟨s, rfl, hi⟩⟩
  | d :: ds, s, h, hi => by
    obtain ⟨s1, h1, h2, h3⟩ := h d (List.mem_cons_self ..) s hi
    cases hp : p d with
    | true =>
      obtain ⟨s2, h4, h5⟩ := h2 hp
      refine ⟨fun x hx => ?_, fun hx => ?_⟩
      · simp only [List.find?, hp] at hx
        cases hx
        exact ⟨s2, by simp [forL, h1, h4], h5⟩
      · simp only [List.find?, hp] at hx
        cases hx
    | false =>
      obtain ⟨s2, h4, h5⟩ := h3 hp
      obtain ⟨g1, g2⟩ := forL_err I J p c R ds s2 (fun d m => h d (List.mem_cons_of_mem _ m)) h5
      have e : forL g b (d :: ds) s = forL g b ds s2 := by simp [forL, h1, h4]
      rw [e]
      simp only [List.find?, hp]
      exact ⟨g1, g2⟩
end AM
set_option Elab.async false
set_option linter.all false
set_option maxRecDepth 100000
set_option maxHeartbeats 4000000
namespace AM
open PySem
-- P0
def isInt : PyData → Bool
  | .int _ => true
  | _ => false
-- P0
def noD : PyData → Bool
  | .dict _ => false
  | _ => true
-- P2
def inI (d : PyData) (a b : Int) : Bool := match d with
  | .int i => decide (a ≤ i) && decide (i ≤ b)
  | _ => false
-- P2
theorem noD_of {d : PyData} (h : d.canLay0 = true) : noD d = true := by
  cases d <;> first | rfl | (rw [PyData.canLay0] at h; cases h)
-- P2
def fi (q : PyData → Bool) : Nat → List PyData → PyData
  | _, [] => .none
  | i, x :: r => if q x then .int i else fi q (i + 1) r
-- P2
def q2 (q : PyData → Bool) : PyData → Bool
  | .tuple [_, x] => q x
  | _ => false
-- P2
theorem enum_find (q : PyData → Bool) : ∀ (xs : List PyData) (i : Nat), match (enumD i xs).find? (q2 q) with
    | some d => ∃ k x, d = .tuple [.int k, x] ∧ fi q i xs = .int k
    | none => fi q i xs = .none
  | [], i => rfl
  | x :: xs, i => by
    unfold enumD fi
    cases h : q x with
    | true => simp [List.find?, q2, h]
    | false =>
      have := enum_find q xs (i + 1)
      simp only [List.find?, q2, h]
      exact this
-- P2
theorem enum_mem {P : PyData → Prop} : ∀ (xs : List PyData) (i : Nat), (∀ x ∈ xs, P x) → ∀ d ∈ enumD i xs, ∃ (k : Nat) (x : PyData), d = .tuple [.int k, x] ∧ P x
  | [], i, _, d, m => by cases m
  | x :: xs, i, h, d, m => by
    unfold enumD at m
    rcases List.mem_cons.mp m with rfl | m
    · exact ⟨i, x, rfl, h x (List.mem_cons_self ..)⟩
    · exact enum_mem xs (i + 1) (fun y m => h y (List.mem_cons_of_mem _ m)) d m
-- P2
def qx (q : PyData → Bool) (xs : List PyData) : PyData → Bool
  | .int k => q (xs.getD k.toNat .none)
  | _ => false
-- P2
theorem range_first (q : PyData → Bool) : ∀ (r pre : List PyData), (((List.range' pre.length r.length).map fun i : Nat => PyData.int (i : Int)).filter (qx q (pre ++ r))).head?.getD .none = fi q pre.length r
  | [], pre => rfl
  | x :: r, pre => by
    have ih := range_first q r (pre ++ [x])
    have e : (pre ++ [x]) ++ r = pre ++ x :: r := by simp
    rw [e, List.length_append] at ih
    have e1 : qx q (pre ++ x :: r) (.int (pre.length : Nat)) = q x := by
      simp [qx]
    rw [List.length_cons, List.range'_succ, List.map_cons, List.filter_cons, e1]
    unfold fi
    cases q x with
    | true => simp
    | false => simpa using ih
-- P2
theorem rangeD_eq (n : Nat) : rangeD 0 (n : Int) = (List.range' 0 n).map fun i : Nat => PyData.int (i : Int) := by
  unfold rangeD
  rw [List.range_eq_range']
  simp
-- P2
theorem first_eq (q : PyData → Bool) (xs : List PyData) : ((rangeD 0 (xs.length : Int)).filter (qx q xs)).head?.getD .none = fi q 0 xs := by
  rw [rangeD_eq]
  exact range_first q xs []
-- P2
theorem fi_none {q : PyData → Bool} : ∀ {xs : List PyData} {i : Nat}, fi q i xs = .none → ∀ x ∈ xs, q x = false
  | [], _, _, x, m => by cases m
  | y :: ys, i, h, x, m => by
    unfold fi at h
    cases hy : q y with
    | true => rw [hy] at h; cases h
    | false =>
      rw [hy] at h
      rcases List.mem_cons.mp m with rfl | m
      · exact hy
      · exact fi_none h x m
-- P2
theorem fi_int {q : PyData → Bool} : ∀ {xs : List PyData} {i : Nat}, fi q i xs = .none ∨ ∃ k : Nat, fi q i xs = .int k
  | [], _ => .inl rfl
  | y :: ys, i => by
    unfold fi
    cases hy : q y with
    | true => exact .inr ⟨i, rfl⟩
    | false => exact fi_int

-- P3
def nonI (d : PyData) : Bool := !isInt d
-- P3
def isZ : PyData → Bool
  | .int i => i == 0
  | _ => false
-- P3
def rf (n : Int) (d : PyData) : PyData := match d with
  | .tuple xs => if (xs.length : Int) ≠ n + 1 then .int (-1) else if isNone (fi nonI 0 xs) then (if (xs.tail).all isZ then .int (-2) else .none) else fi nonI 0 xs
  | _ => .int (-1)
-- P3
theorem lay_mem : ∀ {xs : List PyData}, PyData.canLayAll0 xs = true → ∀ x ∈ xs, x.canLay0 = true
  | [], _, x, m => by cases m
  | y :: ys, h, x, m => by
    rw [PyData.canLayAll0, Bool.and_eq_true] at h
    rcases List.mem_cons.mp m with rfl | m
    · exact h.1
    · exact lay_mem h.2 x m
-- P3
theorem lay_all : ∀ {xs : List PyData}, (∀ x ∈ xs, x.canLay0 = true) → PyData.canLayAll0 xs = true
  | [], _ => by rw [PyData.canLayAll0]
  | y :: ys, h => by
    rw [PyData.canLayAll0, Bool.and_eq_true]
    exact ⟨h y (List.mem_cons_self ..), lay_all fun x m => h x (List.mem_cons_of_mem _ m)⟩
-- P4
theorem any_map {g : PyData → Bool} : ∀ ys : List PyData, boolsD (ys.map fun d => .bool (g d)) = some (ys.map g)
  | [] => rfl
  | y :: ys => by
    show (boolsD (ys.map fun d => .bool (g d))).map (g y :: ·) = _
    rw [any_map ys]
    rfl
-- P4
theorem blt_any {g : PyData → Bool} (ys : List PyData) : bltD .any [.list (ys.map fun d => .bool (g d))] = some (.val (.bool (ys.any g))) := by
  show (boolsD _).map _ = _
  rw [any_map]
  simp [List.any_map]
-- P4
theorem filter_id {α : Type} (ys : List α) : ys.filter (fun _ => true) = ys := by simp
-- P4
theorem isNone_of {d : PyData} (h : isNone d = true) : d = .none := by cases d <;> first | rfl | cases h
-- P4
theorem rf_len {k : Int} {xs : List PyData} (h : ¬ (xs.length : Int) = k + 1) : rf k (.tuple xs) = .int (-1) := by
  simp [rf, h]
-- P4
theorem rf_fi {k j : Int} {xs : List PyData} (h : (xs.length : Int) = k + 1) (h2 : fi nonI 0 xs = .int j) : rf k (.tuple xs) = .int j := by
  simp [rf, h, h2]
-- P4
theorem rf_z {k : Int} {xs : List PyData} (h : (xs.length : Int) = k + 1) (h2 : fi nonI 0 xs = .none) (h3 : xs.tail.all isZ = true) : rf k (.tuple xs) = .int (-2) := by
  simp only [rf, h, h2, h3]
  simp
-- P4
theorem rf_n {k : Int} {xs : List PyData} (h : (xs.length : Int) = k + 1) (h2 : fi nonI 0 xs = .none) (h3 : xs.tail.all isZ = false) : rf k (.tuple xs) = .none := by
  simp only [rf, h, h2, h3]
  simp
-- P4
theorem rng_len {n : Nat} (h : n ≤ 1000000) : rngOk (n : Int) = true := by
  unfold rngOk
  rw [Bool.and_eq_true, decide_eq_true_eq, decide_eq_true_eq]
  constructor <;> omega
-- P4
theorem rng_lay (xs : List PyData) (q : PyData → Bool) (n : Nat) : PyData.canLayAll0 ((rangeD 0 (n : Int)).filter q) = true := lay_all fun x m => by
  rw [rangeD_eq] at m
  obtain ⟨i, _, rfl⟩ := List.mem_map.mp (List.mem_filter.mp m).1
  rw [PyData.canLay0]
-- P5
mutual
def sz : PyData → Nat
  | .list xs => 1 + szs xs
  | .tuple xs => 1 + szs xs
  | .none => 1
  | .bool _ => 1
  | .int _ => 1
  | .str _ => 1
  | .dict _ => 1
def szs : List PyData → Nat
  | [] => 0
  | x :: xs => sz x + szs xs
end
-- P5
theorem sz_pos (d : PyData) : 1 ≤ sz d := by cases d <;> simp only [sz] <;> omega
-- P5
theorem len_szs : ∀ xs : List PyData, xs.length ≤ szs xs
  | [] => by simp [szs]
  | x :: xs => by
    have := len_szs xs
    have := sz_pos x
    simp only [szs, List.length_cons]
    omega
-- P5
theorem sz_mem : ∀ {xs : List PyData} {x : PyData}, x ∈ xs → sz x ≤ szs xs
  | [], x, m => by cases m
  | y :: ys, x, m => by
    simp only [szs]
    rcases List.mem_cons.mp m with rfl | m
    · omega
    · have := sz_mem m
      omega
-- P5
/-- data that the defs may be asked of -/
structure Ok (d : PyData) : Prop where
  lay : d.canLay0 = true
  sz : sz d ≤ 1000000
-- P5
theorem Ok.len {d : PyData} (h : Ok d) : ∀ xs, d = .tuple xs → xs.length ≤ 1000000 := fun xs e => by
  subst e
  have := h.sz
  have := len_szs xs
  simp only [AM.sz] at *
  omega
-- P5
theorem Ok.mem {xs : List PyData} (h : Ok (.tuple xs)) {x : PyData} (m : x ∈ xs) : Ok x := by
  refine ⟨lay_mem (by have := h.lay; rw [PyData.canLay0] at this; exact this) x m, ?_⟩
  have := h.sz
  have := sz_mem m
  simp only [AM.sz] at *
  omega
-- P5
/-- what is wrong outside of the rules -/
def wo : PyData → PyData
  | .tuple [a, b] => if inI a 0 12 then (match b with | .tuple _ => .none | _ => .int 1) else .int 0
  | _ => .int (-1)
-- P6
def noR (k : Int) (d : PyData) : Bool := !isNone (rf k d)
-- P6
theorem wo_none {d : PyData} (h : isNone (wo d) = true) : ∃ i rs, d = .tuple [.int i, .tuple rs] ∧ inI (.int i) 0 12 = true := by
  unfold wo at h
  split at h
  · rename_i a b
    split at h
    · rename_i h1
      split at h
      · rename_i rs
        cases a with
        | int i => exact ⟨i, rs, rfl, h1⟩
        | _ => simp [inI] at h1
      · cases h
    · cases h
  · cases h
-- P6
def bkF (d : PyData) : Option (Nat × PyData) := if isNone (wo d) then (match d with
    | .tuple [.int i, .tuple rs] => if 24 < rs.length then some (2, .int rs.length) else if isNone (fi (noR i) 0 rs) then none else some (4, .tuple [.int 1, fi (noR i) 0 rs])
    | _ => none) else some (4, wo d)
-- P6
def frO (d : PyData) : Option (Nat × PyData) → FR
  | none => .ret (.val d) []
  | some (c, w) => .err c w []
-- P6
theorem ix1 (a b : PyData) : L2.atI [a, b] 1 = some b := atI_of (xs := [a, b]) (i := 1) (by simp)
-- P6
def bkD : Option (Nat × PyData) → PyData
  | none => .none
  | some (c, w) => .tuple [.str (if c = 2 then "TooMany" else "BadBook"), w]
-- P7
def isW : PyData → Bool
  | .int i => decide (0 ≤ i)
  | _ => false
-- P7
def noW (d : PyData) : Bool := !isW d
-- P7
def wf (k : Int) : PyData → PyData
  | .tuple xs => if (xs.length : Int) = k then fi noW 0 xs else .int (-1)
  | _ => .int (-1)
-- P8
theorem sz_lt {n : Nat} (h : n < 1000000) : n < sizeLine := Nat.lt_of_lt_of_le h (by rw [sizeLine_eq]; decide)
-- P8
def pB : PyData → Bool
  | .tuple [_, .bool b] => b
  | _ => false
-- P8
def fB : PyData → PyData
  | .tuple [a, _] => a
  | d => d
-- P8
theorem joinD1 {y p : Str} (h : p.length ≤ 1000) (hy : y.length ≤ 1000) : joinD y [.str p] = some p := by
  have e : Txt.join y [p] = p := by
    rw [TL.join_eq]
    simp [Str.join]
  have h1 : fits p.length = true := fits_of (by omega)
  have h2 : fits (p.length + y.length) = true := fits_of (by omega)
  simp [joinD, strsD, e, h1, h2]
-- P10
def pr (d : PyData) : PyData := .tuple [d, d]
-- P10
def kids : PyData → List PyData
  | .list xs => xs
  | .tuple xs => xs
  | _ => []
-- P10
theorem szs_append : ∀ xs ys : List PyData, szs (xs ++ ys) = szs xs + szs ys
  | [], ys => by simp [szs]
  | x :: xs, ys => by simp only [List.cons_append, szs, szs_append xs ys]; omega
-- P10
theorem kids_sz (d : PyData) : szs (kids d) + 1 ≤ sz d := by cases d <;> simp [kids, sz, szs] <;> omega
-- P10
theorem lay_pr {xs : List PyData} (h : ∀ x ∈ xs, x.canLay0 = true) : PyData.canLayAll0 (xs.map pr) = true := lay_all fun x m => by
  obtain ⟨d, hd, rfl⟩ := List.mem_map.mp m
  unfold pr
  rw [PyData.canLay0]
  exact lay_all fun x m => by
    have : x = d := by simpa using m
    rw [this]
    exact h d hd
-- P10
theorem kids_lay {d : PyData} (h : d.canLay0 = true) : ∀ x ∈ kids d, x.canLay0 = true := by
  cases d with
  | list xs => rw [PyData.canLay0] at h; exact lay_mem h
  | tuple xs => rw [PyData.canLay0] at h; exact lay_mem h
  | _ => intro x m; simp [kids] at m
-- P10
def pairAt (xs : List PyData) : PyData → PyData
  | .int k => pr (xs.getD k.toNat .none)
  | d => d
-- P10
theorem range_pairs (xs : List PyData) : (rangeD 0 (xs.length : Int)).map (pairAt xs) = xs.map pr := by
  rw [rangeD_eq]
  apply List.ext_getElem
  · simp
  · intro i h1 h2
    have : i < xs.length := by simpa using h2
    simp [pairAt, this]
-- P11
def JarOk (t : Nat) (jar : List PyData) : Prop := ∃ a b c : Int, jar = [.int a, .int b, .int c] ∧ 0 ≤ b ∧ b < 2147483647 ∧ 0 ≤ c ∧ c ≤ t
-- P11
theorem mul_ok {i j : Int} (hi : i.natAbs < 2 ^ 400) (hj : j.natAbs < 2 ^ 400) : mulOk i j = true := by
  unfold mulOk
  rw [decide_eq_true_eq]
  have h1 : i.natAbs.log2 ≤ 400 := by
    rcases Nat.eq_zero_or_pos i.natAbs with h | h
    · rw [h]; decide
    · exact Nat.le_of_lt ((Nat.log2_lt (by omega)).mpr hi)
  have h2 : j.natAbs.log2 ≤ 400 := by
    rcases Nat.eq_zero_or_pos j.natAbs with h | h
    · rw [h]; decide
    · exact Nat.le_of_lt ((Nat.log2_lt (by omega)).mpr hj)
  omega
-- P11
theorem mul_s {i j : Int} (hi : i.natAbs < 2 ^ 64) (hj : j.natAbs < 2 ^ 64) : mulOk i j = true :=
  mul_ok (Nat.lt_of_lt_of_le hi (Nat.pow_le_pow_right (by decide) (by decide))) (Nat.lt_of_lt_of_le hj (Nat.pow_le_pow_right (by decide) (by decide)))
-- P11
theorem ixN3 (x y z : PyData) : L2.ixN [x, y, z].length 0 = some 0 ∧ L2.ixN [x, y, z].length 1 = some 1 ∧ L2.ixN [x, y, z].length 2 = some 2 := ⟨rfl, rfl, rfl⟩
-- P13
def SmI (d : PyData) : Prop := ∃ i : Int, d = .int i ∧ -(10 ^ 41) ≤ i ∧ i ≤ 10 ^ 41
-- P13
theorem JarOk.mono {t t' : Nat} {jar : List PyData} (h : JarOk t jar) (l : t ≤ t') : JarOk t' jar := by
  obtain ⟨a, b, c, e, b0, b1, c0, c1⟩ := h
  exact ⟨a, b, c, e, b0, b1, c0, by omega⟩
-- P15
/-- a comprehension that takes from the jar, in a def whose first slot is the jar -/
theorem comp_jar {ds : List PyData} {own : List Nat} {g : AM.G} {elt : M PyData} {Φ : Calls} {b : Bool} {r r0 : AS} {jar : List PyData} {t K : Nat} (P : PyData → Prop)
    (h0 : (own.any fun v => isOwn (sl (some (.own b jar) :: r) v)) = false) (hw : ∀ j, wipeA (some (.own b j) :: r) own = some (.own b j) :: r0) (hj : JarOk t jar) (hl : ds.length ≤ 1000000)
    (h : ∀ d ∈ ds, ∀ k jar, k < ds.length → JarOk (t + K * k) jar → ∃ s1 x jar' s3, bindG g d (wipeA (some (.own b jar) :: r0) own) = some s1 ∧ elt s1 = .ok x s3 ∧ P x ∧ JarOk (t + K * k + K) jar' ∧ wipeA s3 own = some (.own b jar') :: r0) :
    ∃ xs jar', compM (ds, []) own g (tsts Φ .nil) elt (some (.own b jar) :: r) = .ok (.new xs) (backA (some (.own b jar) :: r) (some (.own b jar') :: r0) own) ∧ xs.length = ds.length ∧ (∀ x ∈ xs, P x) ∧ JarOk (t + K * ds.length) jar' := by
  obtain ⟨xs, s', e, hx, hp, jar', hj', _, rfl⟩ := compM_inv (ds := ds) (own := own) (g := g) (tests := tsts Φ .nil) (elt := elt) (s := some (.own b jar) :: r) (fun k s => ∃ jar', JarOk (t + K * k) jar' ∧ True ∧ s = some (.own b jar') :: r0) P h0 ⟨jar, by simpa using hj, trivial, hw jar⟩ hl (fun d hd k s hk hi => by
    obtain ⟨j, hj, _, rfl⟩ := hi
    obtain ⟨s1, x, j', s3, g1, g2, g3, g4, g5⟩ := h d hd k j hk hj
    exact ⟨s1, s1, x, s3, g1, by simp, g2, g3, j', by rw [Nat.mul_add, Nat.mul_one, ← Nat.add_assoc]; exact g4, trivial, g5⟩)
  exact ⟨xs, jar', e, hx, hp, hj'⟩
end AM
set_option Elab.async false
set_option linter.all false
set_option maxRecDepth 100000
set_option maxHeartbeats 4000000
/-! AI1: an abstract interpreter of the machine: shapes of data, what they mean. -/
namespace AM.AI
open PySem
inductive A where
  | bot
  | top
  | non
  | bool (t f : Bool)
  | int (lo hi : Int)
  | str
  | any (k dp : Nat)
  | op (k : Nat)
  | or (a b : A)
  | tup (l : A)
  | lst (l : A)
  | nil
  | cons (a l : A)
  | rep (a : A) (lo hi : Nat)
section
variable (ρ : Nat → PyData → Prop)
mutual
def A.g : A → PyData → Prop
  | .top, _ => True
  | .non, d => d = .none
  | .bool t f, d => ∃ b, d = .bool b ∧ (b = true → t = true) ∧ (b = false → f = true)
  | .int lo hi, d => ∃ i, d = .int i ∧ lo ≤ i ∧ i ≤ hi
  | .str, d => ∃ x, d = .str x ∧ (PyData.str x).canLay0 = true
  | .any k dp, d => d.canLay0 = true ∧ sz d ≤ k ∧ d.depth ≤ dp
  | .op k, d => ρ k d
  | .or a b, d => A.g a d ∨ A.g b d
  | .tup l, d => ∃ xs, d = .tuple xs ∧ A.gl l xs
  | .lst l, d => ∃ xs, d = .list xs ∧ A.gl l xs
  | _, _ => False
def A.gl : A → List PyData → Prop
  | .top, _ => True
  | .nil, xs => xs = []
  | .cons a l, xs => ∃ y ys, xs = y :: ys ∧ A.g a y ∧ A.gl l ys
  | .rep a lo hi, xs => lo ≤ xs.length ∧ xs.length ≤ hi ∧ ∀ x ∈ xs, A.g a x
  | _, _ => False
end
end
/-- what is reckoned with: opaque kinds, their shapes and sizes -/
structure Opq where
  wk : Nat → A
  ws : Nat → Nat
  wd : Nat → Nat
structure OpqOk (O : Opq) (ρ : Nat → PyData → Prop) : Prop where
  wk : ∀ k d, ρ k d → (O.wk k).g ρ d
  lay : ∀ k d, ρ k d → d.canLay0 = true
  ws : ∀ k d, ρ k d → sz d ≤ O.ws k
  wd : ∀ k d, ρ k d → d.depth ≤ O.wd k

def A.ints : A → Option (Int × Int)
  | .int l h => some (l, h)
  | .or a b => match A.ints a, A.ints b with
    | some (l, h), some (l', h') => some (min l l', max h h')
    | _, _ => none
  | _ => none
def A.len : A → Option (Nat × Nat)
  | .nil => some (0, 0)
  | .cons _ l => match A.len l with
    | some (m, n) => some (m + 1, n + 1)
    | none => none
  | .rep _ lo hi => some (lo, hi)
  | _ => none
def A.size (O : Opq) : A → Option (Nat × Nat)
  | .bot => some (0, 0)
  | .top => none
  | .non => some (1, 0)
  | .bool _ _ => some (1, 0)
  | .int _ _ => some (1, 0)
  | .str => some (1, 0)
  | .any k dp => some (k, dp)
  | .op k => some (O.ws k, O.wd k)
  | .or a b => match A.size O a, A.size O b with
    | some m, some n => some (max m.1 n.1, max m.2 n.2)
    | _, _ => none
  | .tup l => (A.size O l).map fun p => (1 + p.1, p.2 + 1)
  | .lst l => (A.size O l).map fun p => (1 + p.1, p.2 + 1)
  | .nil => some (0, 0)
  | .cons a l => match A.size O a, A.size O l with
    | some m, some n => some (m.1 + n.1, max m.2 n.2)
    | _, _ => none
  | .rep a _ hi => (A.size O a).map fun p => (hi * p.1, p.2)
def A.isBot : A → Bool
  | .bot => true
  | _ => false
mutual
def A.le (O : Opq) : Nat → A → A → Bool
  | 0, _, _ => false
  | n + 1, a, b => match a with
    | .bot => true
    | .or a1 a2 => A.le O n a1 b && A.le O n a2 b
    | _ => match b with
      | .top => true
      | .any k dp => (match A.size O a with | some s => decide (s.1 ≤ k) && decide (s.2 ≤ dp) | none => false)
      | .or b1 b2 => A.le O n a b1 || A.le O n a b2
      | .non => (match a with | .non => true | _ => false)
      | .bool t f => (match a with | .bool t' f' => (!t' || t) && (!f' || f) | _ => false)
      | .int lo hi => (match a with | .int l h => decide (lo ≤ l) && decide (h ≤ hi) | _ => false)
      | .str => (match a with | .str => true | _ => false)
      | .op k => (match a with | .op j => decide (j = k) | _ => false)
      | .tup m => (match a with
        | .tup l => A.leL O n l m
        | .op j => (match O.wk j with | .tup l => A.leL O n l m | _ => false)
        | _ => false)
      | .lst m => (match a with | .lst l => A.leL O n l m | _ => false)
      | _ => false
def A.leL (O : Opq) : Nat → A → A → Bool
  | 0, _, _ => false
  | n + 1, l, m => match m with
    | .top => true
    | .nil => (match l with | .nil => true | .rep _ _ hi => decide (hi = 0) | _ => false)
    | .cons b m' => (match l with | .cons a l' => A.le O n a b && A.leL O n l' m' | _ => false)
    | .rep b lo hi => (match A.len l with | some (m, k) => decide (lo ≤ m) && decide (k ≤ hi) | none => false) && A.leA O n l b
    | _ => false
def A.leA (O : Opq) : Nat → A → A → Bool
  | 0, _, _ => false
  | n + 1, l, b => match l with
    | .nil => true
    | .cons a l' => A.le O n a b && A.leA O n l' b
    | .rep a _ hi => decide (hi = 0) || A.le O n a b
    | _ => false
end
abbrev FU : Nat := 400
mutual
def A.join (O : Opq) : Nat → A → A → A
  | 0, a, b => .or a b
  | n + 1, a, b => match a, b with
    | .bot, b => b
    | a, .bot => a
    | .top, _ => .top
    | _, .top => .top
    | .int l h, .int l' h' => .int (min l l') (max h h')
    | .bool t f, .bool t' f' => .bool (t || t') (f || f')
    | a, b => if A.le O FU a b then b else if A.le O FU b a then a else match a, b with
      | .tup l, .tup m => .tup (A.joinL O n l m)
      | .lst l, .lst m => .lst (A.joinL O n l m)
      | .or a1 a2, b => (match b with
        | .tup _ => (match a1 with | .tup _ => .or (A.join O n a1 b) a2 | _ => .or a1 (A.join O n a2 b))
        | _ => .or a1 (A.join O n a2 b))
      | a, b => .or a b
def A.joinL (O : Opq) : Nat → A → A → A
  | 0, l, m => .top
  | n + 1, l, m => match l, m with
    | .nil, .nil => .nil
    | .cons a l', .cons b m' => .cons (A.join O n a b) (A.joinL O n l' m')
    | l, m => (match A.len l, A.len m with
      | some (x, y), some (x', y') => .rep (A.join O n (A.allJ O n l) (A.allJ O n m)) (min x x') (max y y')
      | _, _ => .top)
def A.allJ (O : Opq) : Nat → A → A
  | 0, l => .top
  | n + 1, l => match l with
    | .cons a l => A.join O n a (A.allJ O n l)
    | .rep a _ _ => a
    | .nil => .bot
    | _ => .top
end
section
variable {O : Opq} {ρ : Nat → PyData → Prop}
theorem ints_ok : ∀ {a : A} {l h : Int} {d : PyData}, a.ints = some (l, h) → a.g ρ d → ∃ i, d = .int i ∧ l ≤ i ∧ i ≤ h := by
  intro a
  induction a with
  | int lo hi =>
    intro l h d e g
    simp only [A.ints, Option.some.injEq, Prod.mk.injEq] at e
    obtain ⟨rfl, rfl⟩ := e
    exact g
  | or a b iha ihb =>
    intro l h d e g
    simp only [A.ints] at e
    cases ha : a.ints with
    | none => rw [ha] at e; cases e
    | some p =>
      cases hb : b.ints with
      | none => rw [ha, hb] at e; cases e
      | some q =>
        rw [ha, hb] at e
        obtain ⟨p1, p2⟩ := p
        obtain ⟨q1, q2⟩ := q
        simp only [Option.some.injEq, Prod.mk.injEq] at e
        obtain ⟨rfl, rfl⟩ := e
        rcases g with g | g
        · obtain ⟨i, r, x, y⟩ := iha ha g
          exact ⟨i, r, by omega, by omega⟩
        · obtain ⟨i, r, x, y⟩ := ihb hb g
          exact ⟨i, r, by omega, by omega⟩
  | _ => intro l h d e g; simp [A.ints] at e
theorem len_ok : ∀ {a : A} {m n : Nat} {xs : List PyData}, a.len = some (m, n) → a.gl ρ xs → m ≤ xs.length ∧ xs.length ≤ n := by
  intro a
  induction a with
  | nil =>
    intro m n xs e g
    simp only [A.len, Option.some.injEq, Prod.mk.injEq] at e
    obtain ⟨rfl, rfl⟩ := e
    have : xs = [] := g
    subst this
    simp
  | cons a l _ ih =>
    intro m n xs e g
    simp only [A.len] at e
    obtain ⟨y, ys, rfl, _, g2⟩ := g
    cases hl : l.len with
    | none => rw [hl] at e; cases e
    | some p =>
      obtain ⟨p1, p2⟩ := p
      rw [hl] at e
      simp only [Option.some.injEq, Prod.mk.injEq] at e
      obtain ⟨rfl, rfl⟩ := e
      have := ih hl g2
      simp only [List.length_cons]
      omega
  | rep a lo hi _ =>
    intro m n xs e g
    simp only [A.len, Option.some.injEq, Prod.mk.injEq] at e
    obtain ⟨rfl, rfl⟩ := e
    exact ⟨g.1, g.2.1⟩
  | _ => intro m n xs e g; simp [A.len] at e
theorem szs_rep {n : Nat} : ∀ {xs : List PyData}, (∀ x ∈ xs, sz x ≤ n) → szs xs ≤ xs.length * n
  | [], _ => by simp [szs]
  | x :: xs, h => by
    have h1 := szs_rep fun y m => h y (List.mem_cons_of_mem _ m)
    have h2 := h x (List.mem_cons_self ..)
    simp only [szs, List.length_cons, Nat.add_mul, Nat.one_mul]
    omega
theorem dep_all {n : Nat} : ∀ {xs : List PyData}, (∀ x ∈ xs, x.depth ≤ n) → PyData.depthAll xs ≤ n
  | [], _ => by simp [PyData.depthAll]
  | x :: xs, h => by
    have h1 := dep_all fun y m => h y (List.mem_cons_of_mem _ m)
    have h2 := h x (List.mem_cons_self ..)
    simp only [PyData.depthAll]
    omega
theorem size_ok (HO : OpqOk O ρ) : ∀ {a : A} {n : Nat × Nat}, a.size O = some n → (∀ d, a.g ρ d → d.canLay0 = true ∧ sz d ≤ n.1 ∧ d.depth ≤ n.2) ∧ (∀ xs, a.gl ρ xs → PyData.canLayAll0 xs = true ∧ szs xs ≤ n.1 ∧ PyData.depthAll xs ≤ n.2) := by
  intro a
  induction a with
  | bot => intro n e; exact ⟨fun d g => g.elim, fun d g => g.elim⟩
  | top => intro n e; simp [A.size] at e
  | non =>
    intro n e
    simp only [A.size, Option.some.injEq] at e
    subst e
    refine ⟨fun d g => ?_, fun d g => g.elim⟩
    have : d = .none := g
    subst this
    exact ⟨rfl, by simp [sz], by simp [PyData.depth]⟩
  | bool t f =>
    intro n e
    simp only [A.size, Option.some.injEq] at e
    subst e
    refine ⟨fun d g => ?_, fun d g => g.elim⟩
    obtain ⟨b, rfl, _⟩ := g
    exact ⟨rfl, by simp [sz], by simp [PyData.depth]⟩
  | int l h =>
    intro n e
    simp only [A.size, Option.some.injEq] at e
    subst e
    refine ⟨fun d g => ?_, fun d g => g.elim⟩
    obtain ⟨b, rfl, _⟩ := g
    exact ⟨rfl, by simp [sz], by simp [PyData.depth]⟩
  | str =>
    intro n e
    simp only [A.size, Option.some.injEq] at e
    subst e
    refine ⟨fun d g => ?_, fun d g => g.elim⟩
    obtain ⟨b, rfl, hb⟩ := g
    exact ⟨hb, by simp [sz], by simp [PyData.depth]⟩
  | any k dp =>
    intro n e
    simp only [A.size, Option.some.injEq] at e
    subst e
    exact ⟨fun d g => g, fun d g => g.elim⟩
  | op k =>
    intro n e
    simp only [A.size, Option.some.injEq] at e
    subst e
    exact ⟨fun d g => ⟨HO.lay k d g, HO.ws k d g, HO.wd k d g⟩, fun d g => g.elim⟩
  | or a b iha ihb =>
    intro n e
    simp only [A.size] at e
    cases ha : a.size O with
    | none => rw [ha] at e; cases e
    | some p =>
      cases hb : b.size O with
      | none => rw [ha, hb] at e; cases e
      | some q =>
        rw [ha, hb] at e
        simp only [Option.some.injEq] at e
        subst e
        refine ⟨fun d g => ?_, fun d g => g.elim⟩
        rcases g with g | g
        · have := (iha ha).1 d g
          exact ⟨this.1, by simp only; omega, by simp only; omega⟩
        · have := (ihb hb).1 d g
          exact ⟨this.1, by simp only; omega, by simp only; omega⟩
  | tup l ih =>
    intro n e
    simp only [A.size] at e
    cases hl : l.size O with
    | none => rw [hl] at e; cases e
    | some p =>
      rw [hl] at e
      simp only [Option.map_some, Option.some.injEq] at e
      subst e
      refine ⟨fun d g => ?_, fun d g => g.elim⟩
      obtain ⟨xs, rfl, g⟩ := g
      have := (ih hl).2 xs g
      refine ⟨by rw [PyData.canLay0]; exact this.1, ?_, ?_⟩
      · simp only [sz]; omega
      · simp only [PyData.depth]; omega
  | lst l ih =>
    intro n e
    simp only [A.size] at e
    cases hl : l.size O with
    | none => rw [hl] at e; cases e
    | some p =>
      rw [hl] at e
      simp only [Option.map_some, Option.some.injEq] at e
      subst e
      refine ⟨fun d g => ?_, fun d g => g.elim⟩
      obtain ⟨xs, rfl, g⟩ := g
      have := (ih hl).2 xs g
      refine ⟨by rw [PyData.canLay0]; exact this.1, ?_, ?_⟩
      · simp only [sz]; omega
      · simp only [PyData.depth]; omega
  | nil =>
    intro n e
    refine ⟨fun d g => g.elim, fun xs g => ?_⟩
    have : xs = [] := g
    subst this
    exact ⟨rfl, by simp [szs], by simp [PyData.depthAll]⟩
  | cons a l iha ihl =>
    intro n e
    simp only [A.size] at e
    cases ha : a.size O with
    | none => rw [ha] at e; cases e
    | some p =>
      cases hb : l.size O with
      | none => rw [ha, hb] at e; cases e
      | some q =>
        rw [ha, hb] at e
        simp only [Option.some.injEq] at e
        subst e
        refine ⟨fun d g => g.elim, fun xs g => ?_⟩
        obtain ⟨y, ys, rfl, g1, g2⟩ := g
        have h1 := (iha ha).1 y g1
        have h2 := (ihl hb).2 ys g2
        refine ⟨by rw [PyData.canLayAll0, h1.1, h2.1]; rfl, ?_, ?_⟩
        · simp only [szs]; omega
        · simp only [PyData.depthAll]; omega
  | rep a lo hi ih =>
    intro n e
    simp only [A.size] at e
    cases ha : a.size O with
    | none => rw [ha] at e; cases e
    | some p =>
      rw [ha] at e
      simp only [Option.map_some, Option.some.injEq] at e
      subst e
      refine ⟨fun d g => g.elim, fun xs g => ?_⟩
      obtain ⟨g1, g2, g3⟩ := g
      refine ⟨lay_all fun x m => ((ih ha).1 x (g3 x m)).1, ?_, dep_all fun x m => ((ih ha).1 x (g3 x m)).2.2⟩
      have := szs_rep fun x m => ((ih ha).1 x (g3 x m)).2.1
      exact Nat.le_trans this (Nat.mul_le_mul_right _ g2)
theorem le_ok (HO : OpqOk O ρ) : ∀ n, (∀ a b, A.le O n a b = true → ∀ d, a.g ρ d → b.g ρ d) ∧ (∀ l m, A.leL O n l m = true → ∀ xs, l.gl ρ xs → m.gl ρ xs) ∧ (∀ l b, A.leA O n l b = true → ∀ xs, l.gl ρ xs → ∀ x ∈ xs, b.g ρ x) := by
  intro n
  induction n with
  | zero => exact ⟨fun a b h => by simp [A.le] at h, fun a b h => by simp [A.leL] at h, fun a b h => by simp [A.leA] at h⟩
  | succ n ih =>
    obtain ⟨ih1, ih2, ih3⟩ := ih
    refine ⟨fun a b h d g => ?_, fun l m h xs g => ?_, fun l b h xs g => ?_⟩
    · unfold A.le at h
      split at h
      · exact g.elim
      · rw [Bool.and_eq_true] at h
        rcases g with g | g
        · exact ih1 _ _ h.1 d g
        · exact ih1 _ _ h.2 d g
      · split at h
        · exact trivial
        · split at h
          · rename_i s hs
            have := (size_ok HO hs).1 d g
            rw [Bool.and_eq_true, decide_eq_true_eq, decide_eq_true_eq] at h
            exact ⟨this.1, Nat.le_trans this.2.1 h.1, Nat.le_trans this.2.2 h.2⟩
          · cases h
        · rw [Bool.or_eq_true] at h
          rcases h with h | h
          · exact .inl (ih1 _ _ h d g)
          · exact .inr (ih1 _ _ h d g)
        · split at h
          · exact g
          · cases h
        · split at h
          · obtain ⟨b, rfl, g1, g2⟩ := g
            simp only [Bool.and_eq_true, Bool.or_eq_true, Bool.not_eq_true'] at h
            refine ⟨b, rfl, fun e => ?_, fun e => ?_⟩
            · rcases h.1 with h | h
              · rw [g1 e] at h; cases h
              · exact h
            · rcases h.2 with h | h
              · rw [g2 e] at h; cases h
              · exact h
          · cases h
        · split at h
          · obtain ⟨i, rfl, g1, g2⟩ := g
            rw [Bool.and_eq_true, decide_eq_true_eq, decide_eq_true_eq] at h
            exact ⟨i, rfl, by omega, by omega⟩
          · cases h
        · split at h
          · exact g
          · cases h
        · split at h
          · have := of_decide_eq_true h
            subst this
            exact g
          · cases h
        · split at h
          · obtain ⟨xs, rfl, g⟩ := g
            exact ⟨xs, rfl, ih2 _ _ h xs g⟩
          · have g' := HO.wk _ d g
            split at h
            · rename_i e
              rw [e] at g'
              obtain ⟨xs, rfl, g2⟩ := g'
              exact ⟨xs, rfl, ih2 _ _ h xs g2⟩
            · cases h
          · cases h
        · split at h
          · obtain ⟨xs, rfl, g⟩ := g
            exact ⟨xs, rfl, ih2 _ _ h xs g⟩
          · cases h
        · cases h
    · unfold A.leL at h
      split at h
      · exact trivial
      · split at h
        · exact g
        · have := of_decide_eq_true h
          subst this
          exact List.eq_nil_of_length_eq_zero (Nat.le_zero.mp g.2.1)
        · cases h
      · split at h
        · rw [Bool.and_eq_true] at h
          obtain ⟨y, ys, rfl, g1, g2⟩ := g
          exact ⟨y, ys, rfl, ih1 _ _ h.1 y g1, ih2 _ _ h.2 ys g2⟩
        · cases h
      · rw [Bool.and_eq_true] at h
        obtain ⟨h1, h2⟩ := h
        split at h1
        · rename_i hl
          rw [Bool.and_eq_true, decide_eq_true_eq, decide_eq_true_eq] at h1
          have := len_ok hl g
          exact ⟨by omega, by omega, ih3 _ _ h2 xs g⟩
        · cases h1
      · cases h
    · unfold A.leA at h
      split at h
      · have : xs = [] := g
        subst this
        intro x m
        cases m
      · rw [Bool.and_eq_true] at h
        obtain ⟨y, ys, rfl, g1, g2⟩ := g
        intro x m
        rcases List.mem_cons.mp m with rfl | m
        · exact ih1 _ _ h.1 _ g1
        · exact ih3 _ _ h.2 ys g2 x m
      · rw [Bool.or_eq_true] at h
        obtain ⟨g1, g2, g3⟩ := g
        rcases h with h | h
        · have := of_decide_eq_true h
          subst this
          have : xs = [] := List.eq_nil_of_length_eq_zero (Nat.le_zero.mp g2)
          subst this
          intro x m
          cases m
        · exact fun x m => ih1 _ _ h x (g3 x m)
      · cases h
theorem join_ok (HO : OpqOk O ρ) : ∀ n, (∀ a b d, a.g ρ d ∨ b.g ρ d → (A.join O n a b).g ρ d) ∧ (∀ l m xs, l.gl ρ xs ∨ m.gl ρ xs → (A.joinL O n l m).gl ρ xs) ∧ (∀ l xs, l.gl ρ xs → ∀ x ∈ xs, (A.allJ O n l).g ρ x) := by
  intro n
  induction n with
  | zero =>
    refine ⟨fun a b d g => ?_, fun l m xs g => ?_, fun l xs g x m => ?_⟩
    · unfold A.join; exact g
    · unfold A.joinL; exact trivial
    · unfold A.allJ; exact trivial
  | succ n ih =>
    obtain ⟨ih1, ih2, ih3⟩ := ih
    refine ⟨fun a b d g => ?_, fun l m xs g => ?_, fun l xs g x hm => ?_⟩
    · unfold A.join
      split
      · rcases g with g | g
        · exact g.elim
        · exact g
      · rcases g with g | g
        · exact g
        · exact g.elim
      · exact trivial
      · exact trivial
      · rcases g with ⟨i, rfl, g1, g2⟩ | ⟨i, rfl, g1, g2⟩ <;> exact ⟨i, rfl, by omega, by omega⟩
      · rcases g with ⟨i, rfl, g1, g2⟩ | ⟨i, rfl, g1, g2⟩
        · exact ⟨i, rfl, fun e => by simp [g1 e], fun e => by simp [g2 e]⟩
        · exact ⟨i, rfl, fun e => by simp [g1 e], fun e => by simp [g2 e]⟩
      · split
        · rename_i h
          rcases g with g | g
          · exact (le_ok HO FU).1 _ _ h d g
          · exact g
        · split
          · rename_i h
            rcases g with g | g
            · exact g
            · exact (le_ok HO FU).1 _ _ h d g
          · split
            · rcases g with ⟨xs, rfl, g⟩ | ⟨xs, rfl, g⟩
              · exact ⟨xs, rfl, ih2 _ _ xs (.inl g)⟩
              · exact ⟨xs, rfl, ih2 _ _ xs (.inr g)⟩
            · rcases g with ⟨xs, rfl, g⟩ | ⟨xs, rfl, g⟩
              · exact ⟨xs, rfl, ih2 _ _ xs (.inl g)⟩
              · exact ⟨xs, rfl, ih2 _ _ xs (.inr g)⟩
            · split
              · split
                · rcases g with (g | g) | g
                  · exact .inl (ih1 _ _ d (.inl g))
                  · exact .inr g
                  · exact .inl (ih1 _ _ d (.inr g))
                · rcases g with (g | g) | g
                  · exact .inl g
                  · exact .inr (ih1 _ _ d (.inl g))
                  · exact .inr (ih1 _ _ d (.inr g))
              · rcases g with (g | g) | g
                · exact .inl g
                · exact .inr (ih1 _ _ d (.inl g))
                · exact .inr (ih1 _ _ d (.inr g))
            · exact g
    · unfold A.joinL
      split
      · rcases g with g | g <;> exact g
      · rcases g with ⟨y, ys, rfl, g1, g2⟩ | ⟨y, ys, rfl, g1, g2⟩
        · exact ⟨y, ys, rfl, ih1 _ _ y (.inl g1), ih2 _ _ ys (.inl g2)⟩
        · exact ⟨y, ys, rfl, ih1 _ _ y (.inr g1), ih2 _ _ ys (.inr g2)⟩
      · split
        · rename_i h1 h2
          rcases g with g | g
          · have := len_ok h1 g
            exact ⟨by omega, by omega, fun x hx => ih1 _ _ x (.inl (ih3 _ _ g x hx))⟩
          · have := len_ok h2 g
            exact ⟨by omega, by omega, fun x hx => ih1 _ _ x (.inr (ih3 _ _ g x hx))⟩
        · exact trivial
    · unfold A.allJ
      split
      · obtain ⟨y, ys, rfl, g1, g2⟩ := g
        rcases List.mem_cons.mp hm with rfl | hm
        · exact ih1 _ _ _ (.inl g1)
        · exact ih1 _ _ _ (.inr (ih3 _ _ g2 x hm))
      · exact g.2.2 x hm
      · have : xs = [] := g
        subst this
        cases hm
      · exact trivial
end
end AM.AI
set_option Elab.async false
set_option linter.all false
set_option maxRecDepth 100000
set_option maxHeartbeats 4000000
/-! AI2: operations on shapes. -/
namespace AM.AI
open PySem
inductive AA where
  | val (a : A)
  | bor (i : Nat)
  | new (l : A)
/-- which truths may be -/
abbrev BB := Bool × Bool
def BB.has (p : BB) (b : Bool) : Prop := match b with
  | true => p.1 = true
  | false => p.2 = true
def BB.or (p q : BB) : BB := (p.1 || q.1, p.2 || q.2)
def BB.not (p : BB) : BB := (p.2, p.1)
theorem BB.orl {p q : BB} {b : Bool} (h : p.has b) : (p.or q).has b := by
  cases b <;> simp only [BB.has, BB.or] at * <;> simp [h]
theorem BB.orr {p q : BB} {b : Bool} (h : q.has b) : (p.or q).has b := by
  cases b <;> simp only [BB.has, BB.or] at * <;> simp [h]
theorem BB.nt {p : BB} {b : Bool} (h : p.has b) : p.not.has (!b) := by
  cases b <;> simpa [BB.has, BB.not] using h
theorem BB.all (b : Bool) : BB.has (true, true) b := by cases b <;> rfl
theorem BB.one (b : Bool) : BB.has (b, !b) b := by cases b <;> rfl
def A.seqT (O : Opq) : A → Option A
  | .tup l => some l
  | .op k => match O.wk k with
    | .tup l => some l
    | _ => none
  | .or a b => match A.seqT O a, A.seqT O b with
    | some l, some m => some (A.joinL O FU l m)
    | _, _ => none
  | _ => none
def A.seqL (O : Opq) : A → Option A
  | .lst l => some l
  | .or a b => match A.seqL O a, A.seqL O b with
    | some l, some m => some (A.joinL O FU l m)
    | _, _ => none
  | _ => none
def A.nth : A → Nat → A
  | .cons a _, 0 => a
  | .cons _ l, n + 1 => A.nth l n
  | .rep a _ _, _ => a
  | _, _ => .top
def A.app (O : Opq) : A → A → A
  | .nil, m => m
  | .cons a l, m => .cons a (A.app O l m)
  | .rep a lo hi, m => match A.len m with
    | some (lo', hi') => .rep (A.join O FU a (A.allJ O FU m)) (lo + lo') (hi + hi')
    | none => .top
  | _, _ => .top
def A.rev (O : Opq) : A → A → A
  | .nil, m => m
  | .cons a l, m => A.rev O l (.cons a m)
  | .rep a lo hi, m => match m with
    | .nil => .rep a lo hi
    | _ => A.app O (.rep a lo hi) m
  | _, _ => .top
def A.drop : A → Nat → A
  | .nil, _ => .nil
  | .cons a l, 0 => .cons a l
  | .cons _ l, n + 1 => A.drop l n
  | .rep a lo hi, n => .rep a (lo - n) (hi - n)
  | _, _ => .top
def A.take : A → Nat → A
  | .nil, _ => .nil
  | .cons _ _, 0 => .nil
  | .cons a l, n + 1 => .cons a (A.take l n)
  | .rep a lo hi, n => .rep a (min lo n) (min hi n)
  | _, _ => .top
def A.put (O : Opq) : A → Nat → A → A
  | .nil, _, _ => .nil
  | .cons _ l, 0, v => .cons v l
  | .cons a l, n + 1, v => .cons a (A.put O l n v)
  | .rep a lo hi, _, v => .rep (A.join O FU a v) lo hi
  | _, _, _ => .top
def A.sum : A → Option (Int × Int)
  | .nil => some (0, 0)
  | .cons a l => match a.ints, A.sum l with
    | some (x, y), some (x', y') => some (x + x', y + y')
    | _, _ => none
  | .rep a _ hi => match a.ints with
    | some (x, y) => some (min 0 (hi * x), max 0 (hi * y))
    | none => none
  | _ => none
section
variable {O : Opq} {ρ : Nat → PyData → Prop}
theorem seqT_ok (HO : OpqOk O ρ) : ∀ {a l : A} {d : PyData}, a.seqT O = some l → a.g ρ d → ∃ xs, d = .tuple xs ∧ l.gl ρ xs := by
  intro a
  induction a with
  | tup l => intro m d e g; simp only [A.seqT, Option.some.injEq] at e; subst e; exact g
  | op k =>
    intro m d e g
    have g' := HO.wk k d g
    simp only [A.seqT] at e
    split at e
    · rename_i e2
      rw [e2] at g'
      cases e
      exact g'
    · cases e
  | or a b iha ihb =>
    intro m d e g
    simp only [A.seqT] at e
    split at e
    · rename_i e1 e2
      cases e
      rcases g with g | g
      · obtain ⟨xs, rfl, g2⟩ := iha e1 g
        exact ⟨xs, rfl, (join_ok HO FU).2.1 _ _ xs (.inl g2)⟩
      · obtain ⟨xs, rfl, g2⟩ := ihb e2 g
        exact ⟨xs, rfl, (join_ok HO FU).2.1 _ _ xs (.inr g2)⟩
    · cases e
  | _ => intro m d e g; simp [A.seqT] at e
theorem seqL_ok (HO : OpqOk O ρ) : ∀ {a l : A} {d : PyData}, a.seqL O = some l → a.g ρ d → ∃ xs, d = .list xs ∧ l.gl ρ xs := by
  intro a
  induction a with
  | lst l => intro m d e g; simp only [A.seqL, Option.some.injEq] at e; subst e; exact g
  | or a b iha ihb =>
    intro m d e g
    simp only [A.seqL] at e
    split at e
    · rename_i e1 e2
      cases e
      rcases g with g | g
      · obtain ⟨xs, rfl, g2⟩ := iha e1 g
        exact ⟨xs, rfl, (join_ok HO FU).2.1 _ _ xs (.inl g2)⟩
      · obtain ⟨xs, rfl, g2⟩ := ihb e2 g
        exact ⟨xs, rfl, (join_ok HO FU).2.1 _ _ xs (.inr g2)⟩
    · cases e
  | _ => intro m d e g; simp [A.seqL] at e
theorem nth_ok : ∀ {l : A} {i : Nat} {xs : List PyData} {x : PyData}, l.gl ρ xs → xs[i]? = some x → (l.nth i).g ρ x := by
  intro l
  induction l with
  | cons a l _ ih =>
    intro i xs x g e
    obtain ⟨y, ys, rfl, g1, g2⟩ := g
    cases i with
    | zero => simp at e; subst e; exact g1
    | succ i => simp at e; exact ih g2 e
  | rep a lo hi _ =>
    intro i xs x g e
    have := g.2.2 x (List.mem_of_getElem? e)
    cases i <;> exact this
  | _ => intro i xs x g e; cases i <;> exact trivial
theorem allJ_ok (HO : OpqOk O ρ) {l : A} {xs : List PyData} (g : l.gl ρ xs) {x : PyData} (m : x ∈ xs) : (A.allJ O FU l).g ρ x := (join_ok HO FU).2.2 l xs g x m
theorem app_ok (HO : OpqOk O ρ) : ∀ {l m : A} {xs ys : List PyData}, l.gl ρ xs → m.gl ρ ys → (A.app O l m).gl ρ (xs ++ ys) := by
  intro l
  induction l with
  | nil => intro m xs ys g h; have : xs = [] := g; subst this; simpa [A.app] using h
  | cons a l _ ih =>
    intro m xs ys g h
    obtain ⟨y, zs, rfl, g1, g2⟩ := g
    exact ⟨y, zs ++ ys, rfl, g1, ih g2 h⟩
  | rep a lo hi _ =>
    intro m xs ys g h
    simp only [A.app]
    split
    · rename_i e
      have := len_ok e h
      obtain ⟨g1, g2, g3⟩ := g
      refine ⟨by rw [List.length_append]; omega, by rw [List.length_append]; omega, fun x hx => ?_⟩
      rcases List.mem_append.mp hx with hx | hx
      · exact (join_ok HO FU).1 _ _ x (.inl (g3 x hx))
      · exact (join_ok HO FU).1 _ _ x (.inr (allJ_ok HO h hx))
    · exact trivial
  | _ => intro m xs ys g h; exact trivial
theorem rev_ok (HO : OpqOk O ρ) : ∀ {l m : A} {xs ys : List PyData}, l.gl ρ xs → m.gl ρ ys → (A.rev O l m).gl ρ (xs.reverse ++ ys) := by
  intro l
  induction l with
  | nil => intro m xs ys g h; have : xs = [] := g; subst this; simpa [A.rev] using h
  | cons a l _ ih =>
    intro m xs ys g h
    obtain ⟨y, zs, rfl, g1, g2⟩ := g
    have := ih (m := .cons a m) (ys := y :: ys) g2 ⟨y, ys, rfl, g1, h⟩
    simpa [A.rev] using this
  | rep a lo hi _ =>
    intro m xs ys g h
    have hr : A.gl ρ (.rep a lo hi) xs.reverse := ⟨by simpa using g.1, by simpa using g.2.1, fun x hx => g.2.2 x (by simpa using hx)⟩
    simp only [A.rev]
    split
    · have : ys = [] := h
      subst this
      simpa using hr
    · exact app_ok HO hr h
  | _ => intro m xs ys g h; exact trivial
theorem drop_ok : ∀ {l : A} {n : Nat} {xs : List PyData}, l.gl ρ xs → (l.drop n).gl ρ (xs.drop n) := by
  intro l
  induction l with
  | nil => intro n xs g; have : xs = [] := g; subst this; simp [A.drop, A.gl]
  | cons a l _ ih =>
    intro n xs g
    cases n with
    | zero => exact g
    | succ n =>
      obtain ⟨y, zs, rfl, g1, g2⟩ := g
      exact ih g2
  | rep a lo hi _ =>
    intro n xs g
    obtain ⟨g1, g2, g3⟩ := g
    exact ⟨by rw [List.length_drop]; omega, by rw [List.length_drop]; omega, fun x hx => g3 x (List.mem_of_mem_drop hx)⟩
  | _ => intro n xs g; exact trivial
theorem take_ok : ∀ {l : A} {n : Nat} {xs : List PyData}, l.gl ρ xs → (l.take n).gl ρ (xs.take n) := by
  intro l
  induction l with
  | nil => intro n xs g; have : xs = [] := g; subst this; simp [A.take, A.gl]
  | cons a l _ ih =>
    intro n xs g
    cases n with
    | zero => simp [A.take, A.gl]
    | succ n =>
      obtain ⟨y, zs, rfl, g1, g2⟩ := g
      exact ⟨y, zs.take n, rfl, g1, ih g2⟩
  | rep a lo hi _ =>
    intro n xs g
    obtain ⟨g1, g2, g3⟩ := g
    exact ⟨by rw [List.length_take]; omega, by rw [List.length_take]; omega, fun x hx => g3 x (List.mem_of_mem_take hx)⟩
  | _ => intro n xs g; exact trivial
theorem put_ok (HO : OpqOk O ρ) {v : A} {p : PyData} (hv : v.g ρ p) : ∀ {l : A} {n : Nat} {xs : List PyData}, l.gl ρ xs → (A.put O l n v).gl ρ (xs.set n p) := by
  intro l
  induction l with
  | nil => intro n xs g; have : xs = [] := g; subst this; simp [A.put, A.gl]
  | cons a l _ ih =>
    intro n xs g
    obtain ⟨y, zs, rfl, g1, g2⟩ := g
    cases n with
    | zero => exact ⟨p, zs, rfl, hv, g2⟩
    | succ n => exact ⟨y, zs.set n p, rfl, g1, ih g2⟩
  | rep a lo hi _ =>
    intro n xs g
    obtain ⟨g1, g2, g3⟩ := g
    refine ⟨by rw [List.length_set]; omega, by rw [List.length_set]; omega, fun x hx => ?_⟩
    rcases List.mem_or_eq_of_mem_set hx with hx | rfl
    · exact (join_ok HO FU).1 _ _ x (.inl (g3 x hx))
    · exact (join_ok HO FU).1 _ _ _ (.inr hv)
  | _ => intro n xs g; exact trivial
theorem sum_ints {x y : Int} : ∀ {xs : List PyData}, (∀ d ∈ xs, ∃ i, d = .int i ∧ x ≤ i ∧ i ≤ y) → ∃ ns, intsD xs = some ns ∧ ns.length = xs.length ∧ xs.length * x ≤ ns.sum ∧ ns.sum ≤ xs.length * y
  | [], _ => ⟨[], rfl, rfl, by simp, by simp⟩
  | d :: xs, h => by
    obtain ⟨i, rfl, h1, h2⟩ := h d (List.mem_cons_self ..)
    obtain ⟨ns, e, el, h3, h4⟩ := sum_ints fun d m => h d (List.mem_cons_of_mem _ m)
    refine ⟨i :: ns, by simp [intsD, e], by simp [el], ?_, ?_⟩
    · simp only [List.length_cons, List.sum_cons, Int.natCast_add, Int.natCast_one, Int.add_mul, Int.one_mul]
      omega
    · simp only [List.length_cons, List.sum_cons, Int.natCast_add, Int.natCast_one, Int.add_mul, Int.one_mul]
      omega
theorem sum_ok : ∀ {l : A} {x y : Int} {xs : List PyData}, l.sum = some (x, y) → l.gl ρ xs → ∃ ns, intsD xs = some ns ∧ x ≤ ns.sum ∧ ns.sum ≤ y := by
  intro l
  induction l with
  | nil =>
    intro x y xs e g
    simp only [A.sum, Option.some.injEq, Prod.mk.injEq] at e
    obtain ⟨rfl, rfl⟩ := e
    have : xs = [] := g
    subst this
    exact ⟨[], rfl, by simp, by simp⟩
  | cons a l _ ih =>
    intro x y xs e g
    obtain ⟨z, zs, rfl, g1, g2⟩ := g
    simp only [A.sum] at e
    split at e
    · rename_i e1 e2
      simp only [Option.some.injEq, Prod.mk.injEq] at e
      obtain ⟨rfl, rfl⟩ := e
      obtain ⟨i, rfl, h1, h2⟩ := ints_ok e1 g1
      obtain ⟨ns, e, h3, h4⟩ := ih e2 g2
      exact ⟨i :: ns, by simp [intsD, e], by simp only [List.sum_cons]; omega, by simp only [List.sum_cons]; omega⟩
    · cases e
  | rep a lo hi _ =>
    intro x y xs e g
    obtain ⟨g1, g2, g3⟩ := g
    simp only [A.sum] at e
    split at e
    · rename_i x' y' e1
      simp only [Option.some.injEq, Prod.mk.injEq] at e
      obtain ⟨rfl, rfl⟩ := e
      obtain ⟨ns, e, _, h3, h4⟩ := sum_ints (fun d m => ints_ok e1 (g3 d m))
      refine ⟨ns, e, ?_, ?_⟩
      · rcases Int.le_total 0 x' with hx | hx
        · have : 0 ≤ (xs.length : Int) * x' := Int.mul_nonneg (by omega) hx
          omega
        · have : (hi : Int) * x' ≤ (xs.length : Int) * x' := Int.mul_le_mul_of_nonpos_right (by omega) hx
          omega
      · rcases Int.le_total 0 y' with hx | hx
        · have : (xs.length : Int) * y' ≤ (hi : Int) * y' := Int.mul_le_mul_of_nonneg_right (by omega) hx
          omega
        · have : (xs.length : Int) * y' ≤ 0 := Int.mul_nonpos_of_nonneg_of_nonpos (by omega) hx
          omega
    · cases e
  | _ => intro x y xs e g; simp [A.sum] at e
end
end AM.AI
set_option Elab.async false
set_option linter.all false
set_option maxRecDepth 100000
set_option maxHeartbeats 4000000
/-! AI3: the machine's operations on shapes. -/
namespace AM.AI
open PySem
def lenBB (p : Nat × Nat) : BB := (decide (0 < p.2), decide (p.1 = 0))
def A.tr (O : Opq) : A → Option BB
  | .non => some (false, true)
  | .bool t f => some (t, f)
  | .int l h => some (!(decide (l = 0) && decide (h = 0)), decide (l ≤ 0) && decide (0 ≤ h))
  | .tup l => (A.len l).map lenBB
  | .lst l => (A.len l).map lenBB
  | .op k => match O.wk k with
    | .tup l => (A.len l).map lenBB
    | _ => none
  | .or a b => match A.tr O a, A.tr O b with
    | some p, some q => some (p.or q)
    | _, _ => none
  | _ => none
/-- none: at least, at most; as -/
def A.isn (O : Opq) : A → Option BB
  | .non => some (true, false)
  | .bool _ _ => some (false, true)
  | .int _ _ => some (false, true)
  | .str => some (false, true)
  | .tup _ => some (false, true)
  | .lst _ => some (false, true)
  | .any _ _ => some (true, true)
  | .op k => match O.wk k with
    | .tup _ => some (false, true)
    | _ => some (true, true)
  | .or a b => match A.isn O a, A.isn O b with
    | some p, some q => some (p.or q)
    | _, _ => none
  | _ => none
def tyBB (t : Ty) : A → BB
  | .non => (false, true)
  | .bool _ _ => (match t with | .int => (true, false) | .bool => (true, false) | _ => (false, true))
  | .int _ _ => (match t with | .int => (true, false) | _ => (false, true))
  | .str => (match t with | .str => (true, false) | _ => (false, true))
  | .tup _ => (match t with | .tuple => (true, false) | _ => (false, true))
  | .lst _ => (match t with | .list => (true, false) | _ => (false, true))
  | _ => (true, true)
def A.inst (O : Opq) (t : Ty) : A → Option BB
  | .non => some (tyBB t .non)
  | .bool x y => some (tyBB t (.bool x y))
  | .int x y => some (tyBB t (.int x y))
  | .str => some (tyBB t .str)
  | .tup l => some (tyBB t (.tup l))
  | .lst l => some (tyBB t (.lst l))
  | .any _ _ => some (true, true)
  | .op k => match O.wk k with
    | .tup l => some (tyBB t (.tup l))
    | _ => some (true, true)
  | .or a b => match A.inst O t a, A.inst O t b with
    | some p, some q => some (p.or q)
    | _, _ => none
  | _ => none
def cmpI (o : COp) (l h l' h' : Int) : BB := match o with
  | .eq => (decide (l ≤ h') && decide (l' ≤ h), !(decide (l = h) && decide (l' = h') && decide (l = l')))
  | .ne => (!(decide (l = h) && decide (l' = h') && decide (l = l')), decide (l ≤ h') && decide (l' ≤ h))
  | .lt => (decide (l < h'), decide (l' ≤ h))
  | .le => (decide (l ≤ h'), decide (l' < h))
  | .gt => (decide (l' < h), decide (l ≤ h'))
  | .ge => (decide (l' ≤ h), decide (l < h'))
/-- a scalar of a kind -/
def A.sc : A → Nat → Bool
  | .non, k => k == 0
  | .bool _ _, k => k == 1
  | .int _ _, k => k == 2
  | .str, k => k == 3
  | .or a b, k => A.sc a k || A.sc b k
  | _, k => true
def A.isSc : A → Bool
  | .non => true
  | .bool _ _ => true
  | .int _ _ => true
  | .str => true
  | .or a b => A.isSc a && A.isSc b
  | _ => false
def emp (l : A) (o : COp) : BB := match A.len l with
  | some p => if o = .eq then (decide (p.1 = 0), true) else (true, decide (p.1 = 0))
  | none => (true, true)
def isLN : A → Bool
  | .lst .nil => true
  | _ => false
def isTN : A → Bool
  | .tup .nil => true
  | _ => false
def A.cmp (O : Opq) (o : COp) (a b : A) : Option BB := match a.ints, b.ints with
  | some (l, h), some (l', h') => some (cmpI o l h l' h')
  | _, _ => if o = .eq ∨ o = .ne then (if a.isSc && b.isSc && !(a.sc 1 && b.sc 2) && !(a.sc 2 && b.sc 1) then some (true, true) else match A.size O a, A.size O b with
    | some m, some n => if min m.2 n.2 ≤ 64 then some (match a.seqL O with
      | some l => if isLN b then emp l o else (true, true)
      | none => (match a.seqT O with
        | some l => if isTN b then emp l o else (true, true)
        | none => (true, true))) else none
    | _, _ => none) else none
abbrev BIG : Nat := 2 ^ 40000
def A.bin (O : Opq) (o : BOp) (a b : A) : Option AA := match a.ints, b.ints with
  | some (l, h), some (l', h') => (match o with
    | .add => some (.val (.int (l + l') (h + h')))
    | .sub => some (.val (.int (l - h') (h - l')))
    | .mul => let m := max l.natAbs h.natAbs; let m' := max l'.natAbs h'.natAbs
      if decide (m < BIG) && decide (m' < BIG) then some (.val (if decide (0 ≤ l) && decide (0 ≤ l') then .int (l * l') (h * h') else .int (-(m * m' : Nat)) (m * m' : Nat))) else none
    | .fdiv => if decide (0 < l') && decide (h' < 2 ^ 8000) then some (.val (.int (min l 0) (max h 0))) else none
    | .mod => if decide (0 < l') then some (.val (.int 0 (h' - 1))) else none
    | .pow => if decide (l = h) && decide (l' = h') && decide (0 ≤ l') && decide (l' ≤ 1000000) && decide (l.natAbs < 2 ^ 64) then some (.val (.int (l ^ l'.toNat) (l ^ l'.toNat))) else none)
  | _, some (l', h') => (match o with
    | .mul => (match a.seqT O with
      | some l => (match A.len l with
        | some (m, n) => if decide (h' < 2 ^ 60) && decide (-(2 ^ 60) ≤ l') && decide (n * h'.toNat ≤ 1000000) then some (.val (.tup (.rep (A.allJ O FU l) (m * l'.toNat) (n * h'.toNat)))) else none
        | none => none)
      | none => none)
    | _ => none)
  | _, _ => (match o with
    | .add => (match a.seqT O, b.seqT O with
      | some l, some m => (match A.len l, A.len m with
        | some (_, x), some (_, y) => if decide (x + y ≤ 1000000) then some (.val (.tup (A.app O l m))) else none
        | _, _ => none)
      | _, _ => (match a.seqL O, b.seqL O with
        | some l, some m => (match A.len l, A.len m with
          | some (_, x), some (_, y) => if decide (x + y ≤ 1000000) then some (.new (A.app O l m)) else none
          | _, _ => none)
        | _, _ => none))
    | _ => none)
/-- an item -/
def A.at (O : Opq) (l : A) (i j : Int) : Option A := match A.len l with
  | some (m, n) => if decide (0 ≤ i) && decide (j < m) then some (if i = j then l.nth i.toNat else A.allJ O FU l)
    else if decide (i = j) && decide (i < 0) && decide (-(m : Int) ≤ i) then some (if m = n then l.nth (i + m).toNat else A.allJ O FU l) else none
  | none => none
def A.ix (O : Opq) (a i : A) : Option A := match i.ints with
  | some (x, y) => (match a.seqT O with
    | some l => A.at O l x y
    | none => (match a.seqL O with
      | some l => A.at O l x y
      | none => none))
  | none => none
def A.cut (O : Opq) (l : A) (lo hi : Option (Int × Int)) : Option A := match A.len l with
  | none => none
  | some (m, n) => some (match lo, hi with
    | none, none => l
    | some (x, y), none => if decide (0 ≤ x) then (if x = y then l.drop x.toNat else .rep (A.allJ O FU l) (m - y.toNat) (n - x.toNat)) else .rep (A.allJ O FU l) 0 n
    | none, some (x, y) => if decide (0 ≤ x) then (if x = y then l.take x.toNat else .rep (A.allJ O FU l) (min m x.toNat) (min n y.toNat))
      else if decide (x = y) then (if m = n then l.take (n + x).toNat else .rep (A.allJ O FU l) (m + x).toNat (n + x).toNat) else .rep (A.allJ O FU l) 0 n
    | some _, some _ => .rep (A.allJ O FU l) 0 n)
def A.slc (O : Opq) (a : A) (lo hi : Option (Int × Int)) : Option AA := match a.seqT O with
  | some l => (A.cut O l lo hi).map fun m => .val (.tup m)
  | none => (match a.seqL O with
    | some l => (A.cut O l lo hi).map .new
    | none => none)
def A.rv (O : Opq) (a : A) : Option AA := match a.seqT O with
  | some l => some (.val (.tup (A.rev O l .nil)))
  | none => (match a.seqL O with
    | some l => some (.new (A.rev O l .nil))
    | none => none)
def A.blt (O : Opq) : Blt → List A → Option AA
  | .len, [a] => (match a.seqT O with
    | some l => (A.len l).map fun p => .val (.int p.1 p.2)
    | none => (match a.seqL O with
      | some l => (A.len l).map fun p => .val (.int p.1 p.2)
      | none => none))
  | .int, [a] => (match a.ints with
    | some (x, y) => some (.val (.int x y))
    | none => (match a with
      | .bool _ _ => some (.val (.int 0 1))
      | _ => none))
  | .max, [a, b] => (match a.ints, b.ints with
    | some (x, y), some (x', y') => some (.val (.int (max x x') (max y y')))
    | _, _ => none)
  | .min, [a, b] => (match a.ints, b.ints with
    | some (x, y), some (x', y') => some (.val (.int (min x x') (min y y')))
    | _, _ => none)
  | .tuple, [a] => (match a.seqT O with
    | some l => some (.val (.tup l))
    | none => (match a.seqL O with
      | some l => some (.val (.tup l))
      | none => none))
  | .list, [a] => (match a.seqT O with
    | some l => some (.new l)
    | none => (match a.seqL O with
      | some l => some (.new l)
      | none => none))
  | .sum, [a] => (match a.seqL O with
    | some l => (match l.sum with
      | some (x, y) => some (.val (.int x y))
      | none => none)
    | none => none)
  | .abs, [a] => (match a.ints with
    | some (x, y) => some (.val (.int 0 (max x.natAbs y.natAbs : Nat)))
    | none => none)
  | _, _ => none
mutual
theorem depth_sz : ∀ d : PyData, d.canLay0 = true → d.depth ≤ sz d
  | .list xs, h => by
    have := depth_szs xs (by rw [PyData.canLay0] at h; exact h)
    simp only [PyData.depth, sz]
    omega
  | .tuple xs, h => by
    have := depth_szs xs (by rw [PyData.canLay0] at h; exact h)
    simp only [PyData.depth, sz]
    omega
  | .dict _, h => by rw [PyData.canLay0] at h; cases h
  | .none, _ => by simp [PyData.depth]
  | .bool _, _ => by simp [PyData.depth]
  | .int _, _ => by simp [PyData.depth]
  | .str _, _ => by simp [PyData.depth]
theorem depth_szs : ∀ xs : List PyData, PyData.canLayAll0 xs = true → PyData.depthAll xs ≤ szs xs
  | [], _ => by simp [PyData.depthAll]
  | x :: xs, h => by
    rw [PyData.canLayAll0, Bool.and_eq_true] at h
    have := depth_sz x h.1
    have := depth_szs xs h.2
    simp only [PyData.depthAll, szs]
    omega
end
/-- what a value of the machine is -/
def AA.r (ρ : Nat → PyData → Prop) : AA → AV → Prop
  | .val a, .val d => a.g ρ d
  | .bor i, .bor j => i = j
  | .new l, .new xs => l.gl ρ xs
  | _, _ => False
section
variable {O : Opq} {ρ : Nat → PyData → Prop}
theorem lenBB_ok {p : Nat × Nat} {xs : List PyData} (h1 : p.1 ≤ xs.length) (h2 : xs.length ≤ p.2) : (lenBB p).has (!xs.isEmpty) := by
  cases xs with
  | nil => simp only [List.length_nil] at h1; exact decide_eq_true (show p.1 = 0 by omega)
  | cons x xs => simp only [List.length_cons] at h2; exact decide_eq_true (show 0 < p.2 by omega)
theorem tr_ok (HO : OpqOk O ρ) : ∀ {a : A} {p : BB} {d : PyData}, a.tr O = some p → a.g ρ d → ∃ b, trD d = some b ∧ p.has b := by
  have seq : ∀ {l : A} {p : BB} {xs : List PyData}, (A.len l).map lenBB = some p → l.gl ρ xs → p.has (!xs.isEmpty) := by
    intro l p xs e g
    cases hl : l.len with
    | none => rw [hl] at e; cases e
    | some q =>
      rw [hl] at e
      cases e
      have := len_ok hl g
      exact lenBB_ok this.1 this.2
  intro a
  induction a with
  | non => intro p d e g; cases e; have : d = .none := g; subst this; exact ⟨false, rfl, rfl⟩
  | bool t f =>
    intro p d e g
    cases e
    obtain ⟨b, rfl, h1, h2⟩ := g
    refine ⟨b, rfl, ?_⟩
    cases b
    · exact h2 rfl
    · exact h1 rfl
  | int l h =>
    intro p d e g
    cases e
    obtain ⟨i, rfl, h1, h2⟩ := g
    refine ⟨i != 0, rfl, ?_⟩
    by_cases hi : i = 0
    · subst hi
      show (decide (l ≤ 0) && decide (0 ≤ h)) = true
      simp [h1, h2]
    · have : (i != 0) = true := by simpa using hi
      rw [this]
      show (!(decide (l = 0) && decide (h = 0))) = true
      simp only [Bool.not_eq_true', Bool.and_eq_false_iff, decide_eq_false_iff_not]
      omega
  | tup l => intro p d e g; obtain ⟨xs, rfl, g⟩ := g; exact ⟨_, rfl, seq e g⟩
  | lst l => intro p d e g; obtain ⟨xs, rfl, g⟩ := g; exact ⟨_, rfl, seq e g⟩
  | op k =>
    intro p d e g
    have g' := HO.wk k d g
    simp only [A.tr] at e
    split at e
    · rename_i e2
      rw [e2] at g'
      obtain ⟨xs, rfl, g2⟩ := g'
      exact ⟨_, rfl, seq e g2⟩
    · cases e
  | or a b iha ihb =>
    intro p d e g
    simp only [A.tr] at e
    split at e
    · rename_i e1 e2
      cases e
      rcases g with g | g
      · obtain ⟨b, h1, h2⟩ := iha e1 g
        exact ⟨b, h1, BB.orl h2⟩
      · obtain ⟨b, h1, h2⟩ := ihb e2 g
        exact ⟨b, h1, BB.orr h2⟩
    · cases e
  | _ => intro p d e g; simp [A.tr] at e
theorem isn_ok (HO : OpqOk O ρ) : ∀ {a : A} {p : BB} {d : PyData}, a.isn O = some p → a.g ρ d → p.has (isNone d) := by
  intro a
  induction a with
  | non => intro p d e g; cases e; have : d = .none := g; subst this; rfl
  | bool t f => intro p d e g; cases e; obtain ⟨b, rfl, _⟩ := g; rfl
  | int t f => intro p d e g; cases e; obtain ⟨b, rfl, _⟩ := g; rfl
  | str => intro p d e g; cases e; obtain ⟨b, rfl, _⟩ := g; rfl
  | tup => intro p d e g; cases e; obtain ⟨b, rfl, _⟩ := g; rfl
  | lst => intro p d e g; cases e; obtain ⟨b, rfl, _⟩ := g; rfl
  | any k dp => intro p d e g; cases e; exact BB.all _
  | op k =>
    intro p d e g
    have g' := HO.wk k d g
    simp only [A.isn] at e
    split at e
    · rename_i e2
      rw [e2] at g'
      cases e
      obtain ⟨b, rfl, _⟩ := g'
      rfl
    · cases e; exact BB.all _
  | or a b iha ihb =>
    intro p d e g
    simp only [A.isn] at e
    split at e
    · rename_i e1 e2
      cases e
      rcases g with g | g
      · exact BB.orl (iha e1 g)
      · exact BB.orr (ihb e2 g)
    · cases e
  | _ => intro p d e g; simp [A.isn] at e
theorem inst_ok (HO : OpqOk O ρ) {t : Ty} : ∀ {a : A} {p : BB} {d : PyData}, a.inst O t = some p → a.g ρ d → instOk d = true ∧ p.has (instD t d) := by
  have hlay : ∀ {d : PyData}, d.canLay0 = true → instOk d = true := by
    intro d h
    cases d <;> first | rfl | (rw [PyData.canLay0] at h; cases h)
  intro a
  induction a with
  | non => intro p d e g; cases e; have : d = .none := g; subst this; cases t <;> exact ⟨rfl, rfl⟩
  | bool x y => intro p d e g; cases e; obtain ⟨b, rfl, _⟩ := g; cases t <;> exact ⟨rfl, rfl⟩
  | int x y => intro p d e g; cases e; obtain ⟨b, rfl, _⟩ := g; cases t <;> exact ⟨rfl, rfl⟩
  | str => intro p d e g; cases e; obtain ⟨b, rfl, _⟩ := g; cases t <;> exact ⟨rfl, rfl⟩
  | tup => intro p d e g; cases e; obtain ⟨b, rfl, _⟩ := g; cases t <;> exact ⟨rfl, rfl⟩
  | lst => intro p d e g; cases e; obtain ⟨b, rfl, _⟩ := g; cases t <;> exact ⟨rfl, rfl⟩
  | any k dp => intro p d e g; cases e; exact ⟨hlay g.1, BB.all _⟩
  | op k =>
    intro p d e g
    have g' := HO.wk k d g
    simp only [A.inst] at e
    split at e
    · rename_i e2
      rw [e2] at g'
      cases e
      obtain ⟨b, rfl, _⟩ := g'
      cases t <;> exact ⟨rfl, rfl⟩
    · cases e; exact ⟨hlay (HO.lay k d g), BB.all _⟩
  | or a b iha ihb =>
    intro p d e g
    simp only [A.inst] at e
    split at e
    · rename_i e1 e2
      cases e
      rcases g with g | g
      · exact ⟨(iha e1 g).1, BB.orl (iha e1 g).2⟩
      · exact ⟨(ihb e2 g).1, BB.orr (ihb e2 g).2⟩
    · cases e
  | _ => intro p d e g; simp [A.inst] at e
theorem cmpI_ok {o : COp} {l h l' h' i j : Int} (h1 : l ≤ i) (h2 : i ≤ h) (h3 : l' ≤ j) (h4 : j ≤ h') : ∃ k, cmpD o (.int i) (.int j) = some k ∧ (cmpI o l h l' h').has k := by
  have key : ∀ (k : Bool) (p : BB), (k = true → p.1 = true) → (k = false → p.2 = true) → p.has k := by
    intro k p a b
    cases k
    · exact b rfl
    · exact a rfl
  cases o
  · refine ⟨_, cmp_eq_i i j, key _ _ (fun e => ?_) fun e => ?_⟩
    · have : i = j := by simpa using e
      show (decide (l ≤ h') && decide (l' ≤ h)) = true
      simp only [Bool.and_eq_true, decide_eq_true_eq]; omega
    · have : i ≠ j := by simpa using e
      show (!(decide (l = h) && decide (l' = h') && decide (l = l'))) = true
      simp only [Bool.not_eq_true', Bool.and_eq_false_iff, decide_eq_false_iff_not]; omega
  · refine ⟨_, cmp_ne_i i j, key _ _ (fun e => ?_) fun e => ?_⟩
    · have : i ≠ j := by simpa using e
      show (!(decide (l = h) && decide (l' = h') && decide (l = l'))) = true
      simp only [Bool.not_eq_true', Bool.and_eq_false_iff, decide_eq_false_iff_not]; omega
    · have : i = j := by simpa using e
      show (decide (l ≤ h') && decide (l' ≤ h)) = true
      simp only [Bool.and_eq_true, decide_eq_true_eq]; omega
  all_goals
    refine ⟨_, rfl, key _ _ (fun e => ?_) fun e => ?_⟩ <;> (try have e := of_decide_eq_true e) <;> (try have e := of_decide_eq_false e) <;> (refine decide_eq_true ?_) <;> omega
end
end AM.AI
set_option Elab.async false
set_option linter.all false
set_option maxRecDepth 100000
set_option maxHeartbeats 4000000
/-! AI4: the machine's operations on shapes are sound. -/
namespace AM.AI
open PySem
section
variable {O : Opq} {ρ : Nat → PyData → Prop}
theorem isSc_ok : ∀ {a : A} {d : PyData}, a.isSc = true → a.g ρ d → (d = .none ∨ (∃ b, d = .bool b ∧ a.sc 1 = true) ∨ (∃ i, d = .int i ∧ a.sc 2 = true) ∨ ∃ x, d = .str x) := by
  intro a
  induction a with
  | non => intro d _ g; exact .inl g
  | bool x y => intro d _ g; obtain ⟨b, rfl, _⟩ := g; exact .inr (.inl ⟨b, rfl, rfl⟩)
  | int x y => intro d _ g; obtain ⟨b, rfl, _⟩ := g; exact .inr (.inr (.inl ⟨b, rfl, rfl⟩))
  | str => intro d _ g; obtain ⟨b, rfl, _⟩ := g; exact .inr (.inr (.inr ⟨b, rfl⟩))
  | or a b iha ihb =>
    intro d e g
    simp only [A.isSc, Bool.and_eq_true] at e
    simp only [A.sc, Bool.or_eq_true]
    rcases g with g | g
    · rcases iha e.1 g with h | ⟨b, h, h2⟩ | ⟨b, h, h2⟩ | h
      · exact .inl h
      · exact .inr (.inl ⟨b, h, .inl h2⟩)
      · exact .inr (.inr (.inl ⟨b, h, .inl h2⟩))
      · exact .inr (.inr (.inr h))
    · rcases ihb e.2 g with h | ⟨b, h, h2⟩ | ⟨b, h, h2⟩ | h
      · exact .inl h
      · exact .inr (.inl ⟨b, h, .inr h2⟩)
      · exact .inr (.inr (.inl ⟨b, h, .inr h2⟩))
      · exact .inr (.inr (.inr h))
  | _ => intro d e; simp [A.isSc] at e
theorem eq_of_ok {o : COp} (ho : o = .eq ∨ o = .ne) {d e : PyData} (h : eqOk d e = true) : ∃ k, cmpD o d e = some k := by
  rcases ho with rfl | rfl
  · exact ⟨_, by simp only [cmpD]; rw [if_pos h]⟩
  · exact ⟨_, by simp only [cmpD]; rw [if_pos h]⟩
theorem emp_ok {l : A} {xs : List PyData} (g : l.gl ρ xs) : (emp l .eq).has xs.isEmpty ∧ (emp l .ne).has (!xs.isEmpty) := by
  unfold emp
  split
  · rename_i p e
    have := len_ok (m := p.1) (n := p.2) e g
    cases xs with
    | nil => exact ⟨decide_eq_true (by simp at this; omega), decide_eq_true (by simp at this; omega)⟩
    | cons x xs => exact ⟨rfl, rfl⟩
  · exact ⟨BB.all _, BB.all _⟩
theorem cmp_ok (HO : OpqOk O ρ) {o : COp} {a b : A} {p : BB} {d e : PyData} (h : A.cmp O o a b = some p) (ga : a.g ρ d) (gb : b.g ρ e) : ∃ k, cmpD o d e = some k ∧ p.has k := by
  unfold A.cmp at h
  split at h
  · rename_i e1 e2
    cases h
    obtain ⟨i, rfl, h1, h2⟩ := ints_ok e1 ga
    obtain ⟨j, rfl, h3, h4⟩ := ints_ok e2 gb
    exact cmpI_ok h1 h2 h3 h4
  · split at h
    · rename_i ho
      split at h
      · rename_i hs
        cases h
        simp only [Bool.and_eq_true, Bool.not_eq_true', Bool.and_eq_false_iff] at hs
        obtain ⟨⟨⟨s1, s2⟩, s3⟩, s4⟩ := hs
        have : eqOk d e = true := by
          have : scalD d e = true := by
            rcases isSc_ok s1 ga with rfl | ⟨x, rfl, x2⟩ | ⟨x, rfl, x2⟩ | ⟨x, rfl⟩ <;> rcases isSc_ok s2 gb with rfl | ⟨y, rfl, y2⟩ | ⟨y, rfl, y2⟩ | ⟨y, rfl⟩ <;> first | rfl | (exfalso; simp_all)
          unfold eqOk
          rw [this]
          rfl
        obtain ⟨k, hk⟩ := eq_of_ok ho this
        exact ⟨k, hk, BB.all k⟩
      · split at h
        · rename_i hm hn
          split at h
          · rename_i hle
            cases h
            have A1 := (size_ok HO hm).1 d ga
            have B1 := (size_ok HO hn).1 e gb
            have hok : eqOk d e = true := by
              unfold eqOk
              have := A1.2.2
              have := B1.2.2
              have hd : decide (min d.depth e.depth ≤ 64) = true := decide_eq_true (by omega)
              rw [A1.1, B1.1, hd]
              simp
            obtain ⟨k, hk⟩ := eq_of_ok ho hok
            refine ⟨k, hk, ?_⟩
            split
            · rename_i l hl
              obtain ⟨xs, rfl, gx⟩ := seqL_ok HO hl ga
              split
              · rename_i hb
                have he : e = .list [] := by
                  unfold isLN at hb
                  split at hb
                  · obtain ⟨ys, rfl, gy⟩ := gb
                    have : ys = [] := gy
                    rw [this]
                  · cases hb
                subst he
                rcases ho with rfl | rfl
                · simp only [cmpD, hok, if_true, eqv_l, eqv_t, Option.some.injEq] at hk
                  subst hk
                  exact (emp_ok gx).1
                · simp only [cmpD, hok, if_true, eqv_l, eqv_t, Option.some.injEq] at hk
                  subst hk
                  exact (emp_ok gx).2
              · exact BB.all k
            · split
              · rename_i l hl
                obtain ⟨xs, rfl, gx⟩ := seqT_ok HO hl ga
                split
                · rename_i hb
                  have he : e = .tuple [] := by
                    unfold isTN at hb
                    split at hb
                    · obtain ⟨ys, rfl, gy⟩ := gb
                      have : ys = [] := gy
                      rw [this]
                    · cases hb
                  subst he
                  rcases ho with rfl | rfl
                  · simp only [cmpD, hok, if_true, eqv_l, eqv_t, Option.some.injEq] at hk
                    subst hk
                    exact (emp_ok gx).1
                  · simp only [cmpD, hok, if_true, eqv_l, eqv_t, Option.some.injEq] at hk
                    subst hk
                    exact (emp_ok gx).2
                · exact BB.all k
              · exact BB.all k
          · cases h
        · cases h
    · cases h
theorem log_big {i : Nat} (h : i < BIG) : i.log2 ≤ 40000 := by
  rcases Nat.eq_zero_or_pos i with h0 | h0
  · rw [h0]; decide
  · exact Nat.le_of_lt ((Nat.log2_lt (by omega)).mpr h)
theorem mulOk_big {i j : Int} (hi : i.natAbs < BIG) (hj : j.natAbs < BIG) : mulOk i j = true := by
  unfold mulOk
  rw [decide_eq_true_eq]
  have := log_big hi
  have := log_big hj
  omega
theorem mul_abs {i j : Int} {m n : Nat} (h1 : i.natAbs ≤ m) (h2 : j.natAbs ≤ n) : -((m * n : Nat) : Int) ≤ i * j ∧ i * j ≤ ((m * n : Nat) : Int) := by
  have h : (i * j).natAbs ≤ m * n := by
    rw [Int.natAbs_mul]
    exact Nat.mul_le_mul h1 h2
  omega
theorem fdiv_ok {i j l h : Int} (h1 : l ≤ i) (h2 : i ≤ h) (hj : 0 < j) : min l 0 ≤ i / j ∧ i / j ≤ max h 0 := by
  rcases Int.le_total 0 i with hi | hi
  · have := Int.ediv_nonneg hi (Int.le_of_lt hj)
    have := Int.ediv_le_self j hi
    omega
  · have h3 : i / j ≤ 0 := by
      have := Int.ediv_le_ediv (c := j) hj hi
      simpa using this
    have h4 : i ≤ i / j := by
      have h5 := Int.mul_ediv_add_emod i j
      have h6 := Int.emod_nonneg i (show j ≠ 0 by omega)
      have h7 : j * (i / j) ≤ 1 * (i / j) := Int.mul_le_mul_of_nonpos_right (by omega) h3
      have h8 := Int.emod_lt_of_pos i hj
      rcases Int.lt_or_le (i / j) i with h9 | h9
      · exfalso
        have h10 : j * (i / j) ≤ j * (i - 1) := Int.mul_le_mul_of_nonneg_left (by omega) (by omega)
        have h11 : j * (i - 1) = j * i - j := by rw [Int.mul_sub, Int.mul_one]
        have h12 : j * i ≤ 1 * i := Int.mul_le_mul_of_nonpos_right (by omega) hi
        omega
      · exact h9
    omega
theorem rep_len {n : Nat} {x : List PyData} : ((List.replicate n x).flatten).length = n * x.length := by
  induction n with
  | zero => simp
  | succ n ih => simp [List.replicate_succ, ih, Nat.add_mul, Nat.add_comm]
theorem bin_ok (HO : OpqOk O ρ) {o : BOp} {a b : A} {r : AA} {d e : PyData} (h : A.bin O o a b = some r) (ga : a.g ρ d) (gb : b.g ρ e) : ∃ v, binD o d e = some v ∧ r.r ρ v := by
  unfold A.bin at h
  split at h
  · rename_i l h0 l' h0' e1 e2
    obtain ⟨i, rfl, h1, h2⟩ := ints_ok e1 ga
    obtain ⟨j, rfl, h3, h4⟩ := ints_ok e2 gb
    cases o with
    | add => cases h; exact ⟨_, rfl, _, rfl, by omega, by omega⟩
    | sub => cases h; exact ⟨_, rfl, _, rfl, by omega, by omega⟩
    | mul =>
      dsimp only at h
      split at h
      · rename_i hb
        rw [Bool.and_eq_true, decide_eq_true_eq, decide_eq_true_eq] at hb
        cases h
        have m1 : i.natAbs ≤ max l.natAbs h0.natAbs := by omega
        have m2 : j.natAbs ≤ max l'.natAbs h0'.natAbs := by omega
        have hm : mulOk i j = true := mulOk_big (Nat.lt_of_le_of_lt m1 hb.1) (Nat.lt_of_le_of_lt m2 hb.2)
        refine ⟨.val (.int (i * j)), by simp only [binD]; rw [if_pos hm], ?_⟩
        split
        · rename_i hp
          rw [Bool.and_eq_true, decide_eq_true_eq, decide_eq_true_eq] at hp
          exact ⟨_, rfl, Int.mul_le_mul h1 h3 hp.2 (by omega), Int.mul_le_mul h2 h4 (by omega) (by omega)⟩
        · exact ⟨_, rfl, (mul_abs m1 m2).1, (mul_abs m1 m2).2⟩
      · cases h
    | fdiv =>
      dsimp only at h
      split at h
      · rename_i hb
        rw [Bool.and_eq_true, decide_eq_true_eq, decide_eq_true_eq] at hb
        cases h
        have hd : divOk j = true := by
          unfold divOk
          rw [Bool.and_eq_true, decide_eq_true_eq, decide_eq_true_eq]
          refine ⟨by omega, ?_⟩
          have : j.natAbs < 2 ^ 8000 := by omega
          have := (Nat.log2_lt (by omega)).mpr this
          omega
        refine ⟨.val (.int (i / j)), by simp only [binD]; rw [if_pos hd], _, rfl, ?_⟩
        exact fdiv_ok h1 h2 (by omega)
      · cases h
    | mod =>
      dsimp only at h
      split at h
      · rename_i hb
        have hb := of_decide_eq_true hb
        cases h
        have hj : 0 < j := by omega
        refine ⟨.val (.int (i % j)), by simp only [binD]; rw [if_pos (decide_eq_true hj)], _, rfl, Int.emod_nonneg _ (by omega), ?_⟩
        have := Int.emod_lt_of_pos i hj
        omega
      · cases h
    | pow =>
      dsimp only at h
      split at h
      · rename_i hb
        simp only [Bool.and_eq_true, decide_eq_true_eq] at hb
        obtain ⟨⟨⟨⟨b1, b2⟩, b3⟩, b4⟩, b5⟩ := hb
        cases h
        obtain rfl : i = l := by omega
        obtain rfl : j = l' := by omega
        have hp : powOk i j = true := by
          unfold powOk
          simp only [Bool.and_eq_true, decide_eq_true_eq]
          exact ⟨⟨b3, b4⟩, b5⟩
        exact ⟨.val (.int (i ^ j.toNat)), by simp only [binD]; rw [if_pos hp], _, rfl, Int.le_refl _, Int.le_refl _⟩
      · cases h
  · rename_i l' h' e2 _
    obtain ⟨j, rfl, h3, h4⟩ := ints_ok e2 gb
    cases o with
    | mul =>
      dsimp only at h
      split at h
      · rename_i l hl
        obtain ⟨xs, rfl, gx⟩ := seqT_ok HO hl ga
        split at h
        · rename_i m n hm
          split at h
          · rename_i hb
            simp only [Bool.and_eq_true, decide_eq_true_eq] at hb
            obtain ⟨⟨b1, b2⟩, b3⟩ := hb
            cases h
            obtain ⟨n1, n2⟩ := len_ok hm gx
            have k1 : j.toNat ≤ h'.toNat := by omega
            have k2 : l'.toNat ≤ j.toNat := by omega
            have f1 : xs.length * j.toNat ≤ 1000000 := Nat.le_trans (Nat.mul_le_mul n2 k1) b3
            have hf : fits (xs.length * j.toNat) = true := fits_of f1
            have d1 : decide (j < 2 ^ 63) = true := decide_eq_true (by omega)
            have d2 : decide (-(2 ^ 63) ≤ j) = true := decide_eq_true (by omega)
            refine ⟨.val (.tuple (List.replicate j.toNat xs).flatten), by simp only [binD]; rw [d1, d2, hf]; rfl, _, rfl, ?_, ?_, ?_⟩
            · rw [rep_len, Nat.mul_comm j.toNat]
              exact Nat.mul_le_mul n1 k2
            · rw [rep_len, Nat.mul_comm j.toNat]
              exact Nat.mul_le_mul n2 k1
            · intro x hx
              rw [List.mem_flatten] at hx
              obtain ⟨ys, hy, hx⟩ := hx
              rw [List.mem_replicate] at hy
              rw [hy.2] at hx
              exact allJ_ok HO gx hx
          · cases h
        · cases h
      · cases h
    | _ => cases h
  · cases o with
    | add =>
      dsimp only at h
      split at h
      · rename_i l m hl hm
        obtain ⟨xs, rfl, gx⟩ := seqT_ok HO hl ga
        obtain ⟨ys, rfl, gy⟩ := seqT_ok HO hm gb
        split at h
        · rename_i e1 e2
          split at h
          · rename_i hb
            have hb := of_decide_eq_true hb
            cases h
            have := len_ok e1 gx
            have := len_ok e2 gy
            have hf : fits (xs.length + ys.length) = true := fits_of (by omega)
            exact ⟨.val (.tuple (xs ++ ys)), by simp only [binD]; rw [if_pos hf], _, rfl, app_ok HO gx gy⟩
          · cases h
        · cases h
      · split at h
        · rename_i l m hl hm
          obtain ⟨xs, rfl, gx⟩ := seqL_ok HO hl ga
          obtain ⟨ys, rfl, gy⟩ := seqL_ok HO hm gb
          split at h
          · rename_i e1 e2
            split at h
            · rename_i hb
              have hb := of_decide_eq_true hb
              cases h
              have := len_ok e1 gx
              have := len_ok e2 gy
              have hf : fits (xs.length + ys.length) = true := fits_of (by omega)
              exact ⟨.new (xs ++ ys), by simp only [binD]; rw [if_pos hf], app_ok HO gx gy⟩
            · cases h
          · cases h
        · cases h
    | _ => cases h
theorem at_ok (HO : OpqOk O ρ) {l : A} {x y i : Int} {r : A} {xs : List PyData} (h : A.at O l x y = some r) (g : l.gl ρ xs) (h1 : x ≤ i) (h2 : i ≤ y) : ∃ d, L2.atI xs i = some d ∧ r.g ρ d := by
  unfold A.at at h
  split at h
  · rename_i m n hm
    have hl := len_ok hm g
    split at h
    · rename_i hb
      rw [Bool.and_eq_true, decide_eq_true_eq, decide_eq_true_eq] at hb
      obtain ⟨d, e1, e2⟩ := atI_ofI (xs := xs) (i := i) (by omega) (by omega)
      refine ⟨d, e1, ?_⟩
      split at h
      · cases h
        obtain rfl : i = x := by omega
        exact nth_ok g e2
      · cases h
        exact allJ_ok HO g (List.mem_of_getElem? e2)
    · split at h
      · rename_i hb
        simp only [Bool.and_eq_true, decide_eq_true_eq] at hb
        obtain ⟨⟨b1, b2⟩, b3⟩ := hb
        obtain rfl : i = x := by omega
        have e1 : L2.ixN xs.length i = some (i + xs.length).toNat := by
          unfold L2.ixN
          rw [if_neg (by omega), if_pos (by omega)]
        have hlt : (i + (xs.length : Int)).toNat < xs.length := by omega
        have e2 : xs[(i + (xs.length : Int)).toNat]? = some xs[(i + (xs.length : Int)).toNat] := List.getElem?_eq_getElem hlt
        refine ⟨xs[(i + (xs.length : Int)).toNat], by unfold L2.atI; rw [e1]; exact e2, ?_⟩
        split at h
        · cases h
          have : (i + (m : Int)).toNat = (i + (xs.length : Int)).toNat := by omega
          rw [this]
          exact nth_ok g e2
        · cases h
          exact allJ_ok HO g (List.getElem_mem hlt)
      · cases h
  · cases h
theorem ix_ok (HO : OpqOk O ρ) {a i r : A} {d e : PyData} (h : A.ix O a i = some r) (ga : a.g ρ d) (gi : i.g ρ e) : ∃ x, ixD d e = some x ∧ r.g ρ x := by
  unfold A.ix at h
  split at h
  · rename_i e1
    obtain ⟨j, rfl, h1, h2⟩ := ints_ok e1 gi
    split at h
    · rename_i hl
      obtain ⟨xs, rfl, gx⟩ := seqT_ok HO hl ga
      obtain ⟨x, hx, gr⟩ := at_ok HO h gx h1 h2
      exact ⟨x, by simpa using hx, gr⟩
    · split at h
      · rename_i hl
        obtain ⟨xs, rfl, gx⟩ := seqL_ok HO hl ga
        obtain ⟨x, hx, gr⟩ := at_ok HO h gx h1 h2
        exact ⟨x, by simpa using hx, gr⟩
      · cases h
  · cases h
def ptR : Option (Int × Int) → Option Int → Prop
  | none, none => True
  | some (x, y), some i => x ≤ i ∧ i ≤ y
  | _, _ => False
theorem cut_len {xs : List PyData} {lo hi : Option Int} : (cutD xs lo hi).length ≤ xs.length := by
  unfold cutD
  rw [List.length_take, List.length_drop]
  omega
theorem cut_mem {xs : List PyData} {lo hi : Option Int} {x : PyData} (h : x ∈ cutD xs lo hi) : x ∈ xs := List.mem_of_mem_drop (List.mem_of_mem_take h)
theorem cut_neg {xs : List PyData} {i : Int} (h : i < 0) : cutD xs none (some i) = xs.take ((xs.length : Int) + i).toNat := by
  unfold cutD
  have : HT.sIx xs.length xs.length (some i) = ((xs.length : Int) + i).toNat := by
    show (if i < 0 then (i + (xs.length : Int)).toNat else min i.toNat xs.length) = _
    rw [if_pos h]
    omega
  rw [this, HT.sIx_none]
  rfl
theorem cutA_ok (HO : OpqOk O ρ) {l r : A} {lo hi : Option (Int × Int)} {x y : Option Int} {xs : List PyData} (h : A.cut O l lo hi = some r) (g : l.gl ρ xs) (h1 : ptR lo x) (h2 : ptR hi y) : r.gl ρ (cutD xs x y) := by
  unfold A.cut at h
  split at h
  · cases h
  · rename_i m n hm
    have hl := len_ok hm g
    have fb : A.gl ρ (.rep (A.allJ O FU l) 0 n) (cutD xs x y) := ⟨Nat.zero_le _, Nat.le_trans cut_len hl.2, fun z hz => allJ_ok HO g (cut_mem hz)⟩
    cases h
    split
    · cases x with
      | some _ => exact h1.elim
      | none =>
        cases y with
        | some _ => exact h2.elim
        | none =>
          have : cutD xs none none = xs := by
            unfold cutD
            rw [HT.sIx_none, HT.sIx_none]
            simp
          rw [this]
          exact g
    · rename_i a b
      cases x with
      | none => exact h1.elim
      | some i =>
        cases y with
        | some _ => exact h2.elim
        | none =>
          obtain ⟨h1, h1'⟩ := h1
          split
          · rename_i hb
            have hb := of_decide_eq_true hb
            rw [cut_dropI (by omega)] at fb ⊢
            split
            · rename_i e
              obtain rfl : i = a := by omega
              exact drop_ok g
            · exact ⟨by rw [List.length_drop]; omega, by rw [List.length_drop]; omega, fb.2.2⟩
          · exact fb
    · rename_i a b
      cases x with
      | some i => exact h1.elim
      | none =>
        cases y with
        | none => exact h2.elim
        | some i =>
          obtain ⟨h1, h1'⟩ := h2
          split
          · rename_i hb
            have hb := of_decide_eq_true hb
            rw [cut_takeI (by omega)] at fb ⊢
            split
            · rename_i e
              obtain rfl : i = a := by omega
              exact take_ok g
            · exact ⟨by rw [List.length_take]; omega, by rw [List.length_take]; omega, fb.2.2⟩
          · rename_i hb
            have hb : ¬ (0 ≤ a) := fun h => hb (decide_eq_true h)
            split
            · rename_i hx
              have hx := of_decide_eq_true hx
              rw [cut_neg (by omega)] at fb ⊢
              split
              · have : ((xs.length : Int) + i).toNat = ((n : Int) + a).toNat := by omega
                rw [this]
                exact take_ok g
              · exact ⟨by rw [List.length_take]; omega, by rw [List.length_take]; omega, fb.2.2⟩
            · exact fb
    · exact fb
theorem slc_ok (HO : OpqOk O ρ) {a : A} {lo hi : Option (Int × Int)} {x y : Option Int} {r : AA} {d : PyData} (h : A.slc O a lo hi = some r) (g : a.g ρ d) (h1 : ptR lo x) (h2 : ptR hi y) : ∃ v, slcD d x y = some v ∧ r.r ρ v := by
  unfold A.slc at h
  split at h
  · rename_i hl
    obtain ⟨xs, rfl, gx⟩ := seqT_ok HO hl g
    cases hc : A.cut O _ lo hi with
    | none => rw [hc] at h; cases h
    | some m =>
      rw [hc] at h
      cases h
      exact ⟨_, rfl, _, rfl, cutA_ok HO hc gx h1 h2⟩
  · split at h
    · rename_i hl
      obtain ⟨xs, rfl, gx⟩ := seqL_ok HO hl g
      cases hc : A.cut O _ lo hi with
      | none => rw [hc] at h; cases h
      | some m =>
        rw [hc] at h
        cases h
        exact ⟨_, rfl, cutA_ok HO hc gx h1 h2⟩
    · cases h
theorem rv_ok (HO : OpqOk O ρ) {a : A} {r : AA} {d : PyData} (h : A.rv O a = some r) (g : a.g ρ d) : ∃ v, revD d = some v ∧ r.r ρ v := by
  have hn : A.gl ρ .nil [] := rfl
  unfold A.rv at h
  split at h
  · rename_i hl
    obtain ⟨xs, rfl, gx⟩ := seqT_ok HO hl g
    cases h
    have := rev_ok HO gx hn
    rw [List.append_nil] at this
    exact ⟨_, rfl, _, rfl, this⟩
  · split at h
    · rename_i hl
      obtain ⟨xs, rfl, gx⟩ := seqL_ok HO hl g
      cases h
      have := rev_ok HO gx hn
      rw [List.append_nil] at this
      exact ⟨_, rfl, this⟩
    · cases h
def gAll (ρ : Nat → PyData → Prop) : List A → List PyData → Prop
  | [], [] => True
  | a :: l, d :: ds => a.g ρ d ∧ gAll ρ l ds
  | _, _ => False
theorem blt_ok (HO : OpqOk O ρ) {b : Blt} {l : List A} {ds : List PyData} {r : AA} (h : A.blt O b l = some r) (G : gAll ρ l ds) : ∃ v, bltD b ds = some v ∧ r.r ρ v := by
  have one : ∀ {a : A}, gAll ρ [a] ds → ∃ d, ds = [d] ∧ a.g ρ d := by
    intro a g
    cases ds with
    | nil => exact g.elim
    | cons d r => cases r with
      | nil => exact ⟨d, rfl, g.1⟩
      | cons _ _ => exact g.2.elim
  have two : ∀ {a b : A}, gAll ρ [a, b] ds → ∃ d e, ds = [d, e] ∧ a.g ρ d ∧ b.g ρ e := by
    intro a b g
    cases ds with
    | nil => exact g.elim
    | cons d r => cases r with
      | nil => exact g.2.elim
      | cons e r => cases r with
        | nil => exact ⟨d, e, rfl, g.1, g.2.1⟩
        | cons _ _ => exact g.2.2.elim
  unfold A.blt at h
  split at h
  · obtain ⟨d, rfl, g⟩ := one G
    split at h
    · rename_i hl
      obtain ⟨xs, rfl, gx⟩ := seqT_ok HO hl g
      cases hp : A.len _ with
      | none => rw [hp] at h; cases h
      | some p =>
        rw [hp] at h
        cases h
        have := len_ok (m := p.1) (n := p.2) hp gx
        exact ⟨_, rfl, _, rfl, by omega, by omega⟩
    · split at h
      · rename_i hl
        obtain ⟨xs, rfl, gx⟩ := seqL_ok HO hl g
        cases hp : A.len _ with
        | none => rw [hp] at h; cases h
        | some p =>
          rw [hp] at h
          cases h
          have := len_ok (m := p.1) (n := p.2) hp gx
          exact ⟨_, rfl, _, rfl, by omega, by omega⟩
      · cases h
  · obtain ⟨d, rfl, g⟩ := one G
    split at h
    · rename_i e
      cases h
      obtain ⟨i, rfl, h1, h2⟩ := ints_ok e g
      exact ⟨_, rfl, _, rfl, h1, h2⟩
    · split at h
      · cases h
        obtain ⟨b, rfl, _⟩ := g
        exact ⟨.val (.int (if b then 1 else 0)), rfl, _, rfl, by split <;> omega, by split <;> omega⟩
      · cases h
  · obtain ⟨d, d', rfl, g1, g2⟩ := two G
    split at h
    · rename_i e1 e2
      cases h
      obtain ⟨i, rfl, h1, h2⟩ := ints_ok e1 g1
      obtain ⟨j, rfl, h3, h4⟩ := ints_ok e2 g2
      exact ⟨_, rfl, _, rfl, by split <;> omega, by split <;> omega⟩
    · cases h
  · obtain ⟨d, d', rfl, g1, g2⟩ := two G
    split at h
    · rename_i e1 e2
      cases h
      obtain ⟨i, rfl, h1, h2⟩ := ints_ok e1 g1
      obtain ⟨j, rfl, h3, h4⟩ := ints_ok e2 g2
      exact ⟨_, rfl, _, rfl, by split <;> omega, by split <;> omega⟩
    · cases h
  · obtain ⟨d, rfl, g⟩ := one G
    split at h
    · rename_i hl
      obtain ⟨xs, rfl, gx⟩ := seqT_ok HO hl g
      cases h
      exact ⟨_, rfl, _, rfl, gx⟩
    · split at h
      · rename_i hl
        obtain ⟨xs, rfl, gx⟩ := seqL_ok HO hl g
        cases h
        exact ⟨_, rfl, _, rfl, gx⟩
      · cases h
  · obtain ⟨d, rfl, g⟩ := one G
    split at h
    · rename_i hl
      obtain ⟨xs, rfl, gx⟩ := seqT_ok HO hl g
      cases h
      exact ⟨_, rfl, gx⟩
    · split at h
      · rename_i hl
        obtain ⟨xs, rfl, gx⟩ := seqL_ok HO hl g
        cases h
        exact ⟨_, rfl, gx⟩
      · cases h
  · obtain ⟨d, rfl, g⟩ := one G
    split at h
    · rename_i hl
      obtain ⟨xs, rfl, gx⟩ := seqL_ok HO hl g
      split at h
      · rename_i e
        cases h
        obtain ⟨ns, hn, h1, h2⟩ := sum_ok e gx
        exact ⟨.val (.int ns.sum), by simp [bltD, hn], _, rfl, h1, h2⟩
      · cases h
    · cases h
  · obtain ⟨d, rfl, g⟩ := one G
    split at h
    · rename_i e
      cases h
      obtain ⟨i, rfl, h1, h2⟩ := ints_ok e g
      exact ⟨_, rfl, _, rfl, by split <;> omega, by split <;> omega⟩
    · cases h
  · cases h
end
end AM.AI
set_option Elab.async false
set_option linter.all false
set_option maxRecDepth 100000
set_option maxHeartbeats 4000000
/-! AI5: abstract states, what may come of a term. -/
namespace AM.AI
open PySem
def JarI (t : Int) (xs : List PyData) : Prop := ∃ a b c : Int, xs = [.int a, .int b, .int c] ∧ 0 ≤ b ∧ b < 2147483647 ∧ 0 ≤ c ∧ c ≤ t
theorem JarI.mono {t t' : Int} {xs : List PyData} (h : JarI t xs) (l : t ≤ t') : JarI t' xs := by
  obtain ⟨a, b, c, e, b0, b1, c0, c1⟩ := h
  exact ⟨a, b, c, e, b0, b1, c0, by omega⟩
theorem JarI.nat {t : Int} {xs : List PyData} (h : JarI t xs) : 0 ≤ t ∧ JarOk t.toNat xs := by
  obtain ⟨a, b, c, e, b0, b1, c0, c1⟩ := h
  exact ⟨by omega, a, b, c, e, b0, b1, c0, by omega⟩
theorem jarInt {t : Nat} {xs : List PyData} (h : JarOk t xs) : JarI t xs := by
  obtain ⟨a, b, c, e, b0, b1, c0, c1⟩ := h
  exact ⟨a, b, c, e, b0, b1, c0, by omega⟩
/-- an abstract slot -/
inductive SL where
  | no
  | top
  | val (a : A)
  | own (b : Bool) (l : A)
  | jar (b : Bool) (k : Nat)
  /-- a list that is told by the context -/
  | ref (b : Bool) (l : A)
/-! #### to reckon eagerly -/
class Fc (α : Type) where
  fc : {β : Type} → α → (α → β) → β
  eq : ∀ {β : Type} (a : α) (k : α → β), fc a k = k a
abbrev fc {α β : Type} [Fc α] (a : α) (k : α → β) : β := Fc.fc a k
theorem fc_eq {α β : Type} [Fc α] (a : α) (k : α → β) : fc a k = k a := Fc.eq a k
def fcNat {β : Type} (n : Nat) (k : Nat → β) : β := match n with
  | .zero => k .zero
  | .succ m => k (.succ m)
instance : Fc Nat := ⟨fcNat, fun n k => by cases n <;> rfl⟩
def fcInt {β : Type} (i : Int) (k : Int → β) : β := match i with
  | .ofNat n => fcNat n fun n => k (.ofNat n)
  | .negSucc n => fcNat n fun n => k (.negSucc n)
instance : Fc Int := ⟨fcInt, fun n k => by cases n <;> exact Fc.eq (α := Nat) _ _⟩
def fcBool {β : Type} (i : Bool) (k : Bool → β) : β := match i with
  | true => k true
  | false => k false
instance : Fc Bool := ⟨fcBool, fun n k => by cases n <;> rfl⟩
instance : Fc Unit := ⟨fun _ k => k (), fun _ _ => rfl⟩
def fcA {β : Type} : A → (A → β) → β
  | .bot, k => k .bot
  | .top, k => k .top
  | .non, k => k .non
  | .bool t f, k => fcBool t fun t => fcBool f fun f => k (.bool t f)
  | .int l h, k => fcInt l fun l => fcInt h fun h => k (.int l h)
  | .str, k => k .str
  | .any a b, k => fcNat a fun a => fcNat b fun b => k (.any a b)
  | .op a, k => fcNat a fun a => k (.op a)
  | .or a b, k => fcA a fun a => fcA b fun b => k (.or a b)
  | .tup a, k => fcA a fun a => k (.tup a)
  | .lst a, k => fcA a fun a => k (.lst a)
  | .nil, k => k .nil
  | .cons a b, k => fcA a fun a => fcA b fun b => k (.cons a b)
  | .rep a m n, k => fcA a fun a => fcNat m fun m => fcNat n fun n => k (.rep a m n)
theorem fcA_eq : ∀ (a : A) {β : Type} (k : A → β), fcA a k = k a := by
  intro a
  induction a with
  | bot => intros; rfl
  | top => intros; rfl
  | non => intros; rfl
  | str => intros; rfl
  | nil => intros; rfl
  | bool t f => intro β k; exact (Fc.eq (α := Bool) _ _).trans (Fc.eq (α := Bool) _ _)
  | int t f => intro β k; exact (Fc.eq (α := Int) _ _).trans (Fc.eq (α := Int) _ _)
  | any t f => intro β k; exact (Fc.eq (α := Nat) _ _).trans (Fc.eq (α := Nat) _ _)
  | op t => intro β k; exact Fc.eq (α := Nat) _ _
  | or a b iha ihb => intro β k; exact (iha _).trans (ihb _)
  | cons a b iha ihb => intro β k; exact (iha _).trans (ihb _)
  | tup a ih => intro β k; exact ih _
  | lst a ih => intro β k; exact ih _
  | rep a m n ih => intro β k; exact (ih _).trans ((Fc.eq (α := Nat) _ _).trans (Fc.eq (α := Nat) _ _))
instance : Fc A := ⟨fcA, fun a k => fcA_eq a k⟩
def fcSL {β : Type} : SL → (SL → β) → β
  | .no, k => k .no
  | .top, k => k .top
  | .val a, k => fcA a fun a => k (.val a)
  | .own b l, k => fcBool b fun b => fcA l fun l => k (.own b l)
  | .jar b n, k => fcBool b fun b => fcNat n fun n => k (.jar b n)
  | .ref b l, k => fcBool b fun b => fcA l fun l => k (.ref b l)
instance : Fc SL := ⟨fcSL, fun x k => by
  cases x with
  | no => rfl
  | top => rfl
  | val a => exact fcA_eq _ _
  | own b l => exact (Fc.eq (α := Bool) _ _).trans (fcA_eq _ _)
  | jar b l => exact (Fc.eq (α := Bool) _ _).trans (Fc.eq (α := Nat) _ _)
  | ref b l => exact (Fc.eq (α := Bool) _ _).trans (fcA_eq _ _)⟩
def fcList {α β : Type} [Fc α] : List α → (List α → β) → β
  | [], k => k []
  | x :: r, k => Fc.fc x fun x => fcList r fun r => k (x :: r)
theorem fcList_eq {α : Type} [Fc α] : ∀ (l : List α) {β : Type} (k : List α → β), fcList l k = k l
  | [], _, _ => rfl
  | x :: r, _, k => (Fc.eq _ _).trans (fcList_eq r _)
instance {α : Type} [Fc α] : Fc (List α) := ⟨fcList, fun a k => fcList_eq a k⟩
instance {α γ : Type} [Fc α] [Fc γ] : Fc (α × γ) := ⟨fun p k => match p with
  | (x, y) => Fc.fc x fun x => Fc.fc y fun y => k (x, y), fun p k => (Fc.eq _ _).trans (Fc.eq _ _)⟩
instance {α : Type} [Fc α] : Fc (Option α) := ⟨fun p k => match p with
  | none => k none
  | some x => Fc.fc x fun x => k (some x), fun p k => by
    cases p with
    | none => rfl
    | some x => exact Fc.eq _ _⟩
def fcAA {β : Type} : AA → (AA → β) → β
  | .val a, k => fcA a fun a => k (.val a)
  | .bor i, k => fcNat i fun i => k (.bor i)
  | .new l, k => fcA l fun l => k (.new l)
instance : Fc AA := ⟨fcAA, fun x k => by
  cases x with
  | val a => exact fcA_eq _ _
  | bor i => exact Fc.eq (α := Nat) _ _
  | new a => exact fcA_eq _ _⟩
/-- the context -/
structure Ctx where
  t0 : Int
  th : Nat → List PyData
abbrev AE := List SL
def sa (σ : AE) (i : Nat) : SL := (σ[i]?).getD .no
section
variable (ρ : Nat → PyData → Prop)
def slR (c : Ctx) (i : Nat) : SL → Option SV → Prop
  | .no, o => o = none
  | .top, _ => True
  | .val a, o => ∃ d, o = some (.val d) ∧ a.g ρ d
  | .own b l, o => ∃ xs, o = some (.own b xs) ∧ l.gl ρ xs
  | .jar b k, o => ∃ xs, o = some (.own b xs) ∧ JarI (c.t0 + k) xs
  | .ref b l, o => o = some (.own b (c.th i)) ∧ l.gl ρ (c.th i)
structure rel (c : Ctx) (σ : AE) (s : AS) : Prop where
  len : s.length = σ.length
  at_ : ∀ i, slR ρ c i (sa σ i) (sl s i)
end
abbrev W (α : Type) := AE → Option (List (α × AE))
def wret {α : Type} (a : α) : W α := fun σ => some [(a, σ)]
def wfail {α : Type} : W α := fun _ => none
def wcat {α β : Type} (f : α → W β) : List (α × AE) → Option (List (β × AE))
  | [] => some []
  | p :: r => match f p.1 p.2 with
    | none => none
    | some x => match wcat f r with
      | none => none
      | some y => some (x ++ y)
def wb {α β : Type} (m : W α) (f : α → W β) : W β := fun σ => match m σ with
  | none => none
  | some outs => wcat f outs
def wlift {α : Type} [Fc α] : Option α → W α
  | none => wfail
  | some a => fun σ => fc a fun a => some [(a, σ)]
def wor {α : Type} (m n : W α) : W α := fun σ => match m σ, n σ with
  | some x, some y => some (x ++ y)
  | _, _ => none
/-- by a truth -/
def wif {α : Type} (p : BB) (m n : W α) : W α := match p with
  | (true, true) => wor m n
  | (true, false) => m
  | (false, true) => n
  | (false, false) => fun _ => some []
def wfork (p : BB) : W Bool := wif p (wret true) (wret false)
def fzW : AA → W A
  | .val a => wret a
  | .new l => wret (.lst l)
  | .bor i => fun σ => match sa σ i with
    | .own false l => fc (σ.set i (.val (.lst l))) fun σ => some [(.lst l, σ)]
    | .ref false l => fc (σ.set i (.val (.lst l))) fun σ => some [(.lst l, σ)]
    | .val a => some [(a, σ)]
    | _ => none
def nzW : AA → W AA
  | .new l => wret (.val (.lst l))
  | a => wret a
def rdW : AA → W A
  | .val a => wret a
  | .bor i => fun σ => match sa σ i with
    | .own _ l => some [(.lst l, σ)]
    | .ref _ l => some [(.lst l, σ)]
    | .val a => some [(a, σ)]
    | _ => none
  | .new _ => wfail
def fzsW : List AA → W (List A)
  | [] => wret []
  | a :: r => wb (fzW a) fun d => wb (fzsW r) fun ds => wret (d :: ds)
def rdsW : List AA → W (List A)
  | [] => wret []
  | a :: r => wb (rdW a) fun d => wb (rdsW r) fun ds => wret (d :: ds)
def opnW (m : W AA) : W AA := wb m nzW
def vlW (m : W AA) : W A := wb m fzW
def trW (O : Opq) (a : AA) : W BB := wb (rdW a) fun d => wlift (d.tr O)
section
variable {O : Opq} {ρ : Nat → PyData → Prop}
theorem sl_set (s : AS) (i j : Nat) (o : Option SV) : sl (s.set i o) j = if i = j ∧ i < s.length then o else sl s j := by
  unfold sl
  rw [List.getElem?_set]
  by_cases h : i = j
  · subst h
    rw [if_pos rfl]
    by_cases h2 : i < s.length
    · simp [h2]
    · simp [h2, List.getElem?_eq_none (Nat.le_of_not_lt h2)]
  · rw [if_neg h, if_neg (fun e => h e.1)]
theorem sa_set (s : AE) (i j : Nat) (o : SL) : sa (s.set i o) j = if i = j ∧ i < s.length then o else sa s j := by
  unfold sa
  rw [List.getElem?_set]
  by_cases h : i = j
  · subst h
    rw [if_pos rfl]
    by_cases h2 : i < s.length
    · simp [h2]
    · simp [h2, List.getElem?_eq_none (Nat.le_of_not_lt h2)]
  · rw [if_neg h, if_neg (fun e => h e.1)]
theorem rel_set {c : Ctx} {σ : AE} {s : AS} {i : Nat} {v : SL} {o : Option SV} (h : rel ρ c σ s) (hv : slR ρ c i v o) : rel ρ c (σ.set i v) (s.set i o) := by
  refine ⟨by rw [List.length_set, List.length_set]; exact h.len, fun j => ?_⟩
  rw [sl_set, sa_set, h.len]
  split
  · rename_i e
    obtain ⟨rfl, _⟩ := e
    exact hv
  · exact h.at_ j
/-- what is told of a term holds of it -/
def Snd {α β : Type} (ρ : Nat → PyData → Prop) (c : Ctx) (R : α → β → Prop) (w : W α) (m : M β) : Prop := ∀ σ s outs, rel ρ c σ s → w σ = some outs → ∃ b s', m s = .ok b s' ∧ ∃ a σ', (a, σ') ∈ outs ∧ R a b ∧ rel ρ c σ' s'
theorem S_ret {α β : Type} {c : Ctx} {R : α → β → Prop} {a : α} {b : β} (h : R a b) : Snd ρ c R (wret a) (ret b) := fun σ s outs hr e => by
  cases e
  exact ⟨b, s, rfl, a, σ, List.mem_singleton.mpr rfl, h, hr⟩
theorem S_fail {α β : Type} {c : Ctx} {R : α → β → Prop} {m : M β} : Snd ρ c R wfail m := fun σ s outs hr e => by cases e
theorem S_none {α β : Type} {c : Ctx} {R : α → β → Prop} {w : W α} {m : M β} (h : ∀ σ, w σ = none) : Snd ρ c R w m := fun σ s outs hr e => by rw [h] at e; cases e
theorem wcat_mem {α β : Type} {f : α → W β} : ∀ {l : List (α × AE)} {outs : List (β × AE)} {a : α} {σ : AE}, wcat f l = some outs → (a, σ) ∈ l → ∃ o, f a σ = some o ∧ ∀ p ∈ o, p ∈ outs
  | [], _, _, _, _, m => by cases m
  | p :: r, outs, a, σ, e, m => by
    unfold wcat at e
    cases h1 : f p.1 p.2 with
    | none => rw [h1] at e; cases e
    | some x =>
      cases h2 : wcat f r with
      | none => rw [h1, h2] at e; cases e
      | some y =>
        rw [h1, h2] at e
        cases e
        rcases List.mem_cons.mp m with rfl | m
        · exact ⟨x, h1, fun q hq => List.mem_append_left _ hq⟩
        · obtain ⟨o, h3, h4⟩ := wcat_mem h2 m
          exact ⟨o, h3, fun q hq => List.mem_append_right _ (h4 q hq)⟩
theorem S_bind {α β γ δ : Type} {c : Ctx} {R : α → β → Prop} {R' : γ → δ → Prop} {w : W α} {m : M β} {f : α → W γ} {k : β → M δ} (h : Snd ρ c R w m) (h2 : ∀ a b, R a b → Snd ρ c R' (f a) (k b)) : Snd ρ c R' (wb w f) (bnd m k) := fun σ s outs hr e => by
  unfold wb at e
  cases h1 : w σ with
  | none => rw [h1] at e; cases e
  | some o =>
    rw [h1] at e
    obtain ⟨b, s', e1, a, σ', hm, hab, hr'⟩ := h σ s o hr h1
    obtain ⟨o2, e2, hsub⟩ := wcat_mem e hm
    obtain ⟨d, s2, e3, g, σ2, hm2, hg, hr2⟩ := h2 a b hab σ' s' o2 hr' e2
    exact ⟨d, s2, by unfold bnd; rw [e1]; exact e3, g, σ2, hsub _ hm2, hg, hr2⟩
theorem wlift_some {α : Type} [Fc α] (a : α) : wlift (some a) = wret a := by
  funext σ
  exact fc_eq a _
theorem S_lift {α β : Type} [Fc α] {c : Ctx} {R : α → β → Prop} {a : Option α} {b : Option β} (h : ∀ x, a = some x → ∃ y, b = some y ∧ R x y) : Snd ρ c R (wlift a) (lift b) := by
  cases a with
  | none => exact S_fail
  | some x =>
    obtain ⟨y, rfl, hr⟩ := h x rfl
    rw [wlift_some]
    exact S_ret hr
theorem S_or_l {α β : Type} {c : Ctx} {R : α → β → Prop} {w w' : W α} {m : M β} (h : Snd ρ c R w m) : Snd ρ c R (wor w w') m := fun σ s outs hr e => by
  unfold wor at e
  split at e
  · rename_i h1 h2
    cases e
    obtain ⟨b, s', e1, a, σ', hm, hab, hr'⟩ := h σ s _ hr h1
    exact ⟨b, s', e1, a, σ', List.mem_append_left _ hm, hab, hr'⟩
  · cases e
theorem S_or_r {α β : Type} {c : Ctx} {R : α → β → Prop} {w w' : W α} {m : M β} (h : Snd ρ c R w m) : Snd ρ c R (wor w' w) m := fun σ s outs hr e => by
  unfold wor at e
  split at e
  · rename_i h1 h2
    cases e
    obtain ⟨b, s', e1, a, σ', hm, hab, hr'⟩ := h σ s _ hr h2
    exact ⟨b, s', e1, a, σ', List.mem_append_right _ hm, hab, hr'⟩
  · cases e
theorem S_if {α β : Type} {c : Ctx} {R : α → β → Prop} {w w' : W α} {m n : M β} {p : BB} {k : Bool} (hk : p.has k) (h : Snd ρ c R w m) (h' : Snd ρ c R w' n) : Snd ρ c R (wif p w w') (if k then m else n) := by
  obtain ⟨p1, p2⟩ := p
  cases k with
  | true =>
    have : p1 = true := hk
    subst this
    rw [if_pos rfl]
    cases p2
    · exact h
    · exact S_or_l h
  | false =>
    have : p2 = true := hk
    subst this
    rw [if_neg (by simp)]
    cases p1
    · exact h'
    · exact S_or_r h'
theorem S_fork {c : Ctx} {p : BB} {k : Bool} (hk : p.has k) : Snd ρ c (fun a b => a = b) (wfork p) (ret k) := by
  have := S_if (ρ := ρ) (c := c) (R := fun a b => a = b) hk (S_ret (a := true) (b := true) rfl) (S_ret (a := false) (b := false) rfl)
  cases k
  · exact this
  · exact this
theorem S_nz {c : Ctx} {a : AA} {v : AV} (h : a.r ρ v) : Snd ρ c (AA.r ρ) (nzW a) (nz v) := by
  cases a with
  | val a => cases v with
    | val d => exact S_ret h
    | _ => exact h.elim
  | bor i => cases v with
    | bor d => exact S_ret h
    | _ => exact h.elim
  | new l => cases v with
    | new xs => exact S_ret (show AA.r ρ (.val (.lst l)) (.val (.list xs)) from ⟨xs, rfl, h⟩)
    | _ => exact h.elim
theorem S_rd {c : Ctx} {a : AA} {v : AV} (h : a.r ρ v) : Snd ρ c (A.g ρ) (rdW a) (rd v) := by
  cases a with
  | val a => cases v with
    | val d => exact S_ret h
    | _ => exact h.elim
  | bor i => cases v with
    | bor j =>
      have : i = j := h
      subst this
      intro σ s outs hr e
      have hs := hr.at_ i
      rw [rd_bor]
      cases hl : sa σ i with
      | own b l =>
        simp only [rdW, hl] at e
        cases e
        rw [hl] at hs
        obtain ⟨xs, e1, g⟩ := hs
        rw [e1]
        exact ⟨_, s, rfl, _, _, List.mem_singleton.mpr rfl, ⟨xs, rfl, g⟩, hr⟩
      | ref b l =>
        simp only [rdW, hl] at e
        cases e
        rw [hl] at hs
        obtain ⟨e1, g⟩ := hs
        rw [e1]
        exact ⟨_, s, rfl, _, _, List.mem_singleton.mpr rfl, ⟨_, rfl, g⟩, hr⟩
      | val a =>
        simp only [rdW, hl] at e
        cases e
        rw [hl] at hs
        obtain ⟨d, e1, g⟩ := hs
        rw [e1]
        exact ⟨_, s, rfl, _, _, List.mem_singleton.mpr rfl, g, hr⟩
      | no => simp [rdW, hl] at e
      | top => simp [rdW, hl] at e
      | jar b k => simp [rdW, hl] at e
    | _ => exact h.elim
  | new l => exact S_fail
theorem S_fz {c : Ctx} {a : AA} {v : AV} (h : a.r ρ v) : Snd ρ c (A.g ρ) (fzW a) (fz v) := by
  cases a with
  | val a => cases v with
    | val d => exact S_ret h
    | _ => exact h.elim
  | bor i => cases v with
    | bor j =>
      have : i = j := h
      subst this
      intro σ s outs hr e
      have hs := hr.at_ i
      rw [fz_bor]
      cases hl : sa σ i with
      | own b l =>
        cases b with
        | true => simp [fzW, hl] at e
        | false =>
          simp only [fzW, hl, fc_eq] at e
          cases e
          rw [hl] at hs
          obtain ⟨xs, e1, g⟩ := hs
          rw [e1]
          exact ⟨_, _, rfl, _, _, List.mem_singleton.mpr rfl, ⟨xs, rfl, g⟩, rel_set hr ⟨_, rfl, ⟨xs, rfl, g⟩⟩⟩
      | ref b l =>
        cases b with
        | true => simp [fzW, hl] at e
        | false =>
          simp only [fzW, hl, fc_eq] at e
          cases e
          rw [hl] at hs
          obtain ⟨e1, g⟩ := hs
          rw [e1]
          exact ⟨_, _, rfl, _, _, List.mem_singleton.mpr rfl, ⟨_, rfl, g⟩, rel_set hr ⟨_, rfl, ⟨_, rfl, g⟩⟩⟩
      | val a =>
        simp only [fzW, hl] at e
        cases e
        rw [hl] at hs
        obtain ⟨d, e1, g⟩ := hs
        rw [e1]
        exact ⟨_, s, rfl, _, _, List.mem_singleton.mpr rfl, g, hr⟩
      | no => simp [fzW, hl] at e
      | top => simp [fzW, hl] at e
      | jar b k => simp [fzW, hl] at e
    | _ => exact h.elim
  | new l => cases v with
    | new xs => exact S_ret (show A.g ρ (.lst l) (.list xs) from ⟨xs, rfl, h⟩)
    | _ => exact h.elim
def aAll (ρ : Nat → PyData → Prop) : List AA → List AV → Prop
  | [], [] => True
  | a :: l, d :: ds => a.r ρ d ∧ aAll ρ l ds
  | _, _ => False
theorem S_fzs {c : Ctx} : ∀ {as : List AA} {vs : List AV}, aAll ρ as vs → Snd ρ c (gAll ρ) (fzsW as) (fzs vs)
  | [], [], _ => S_ret trivial
  | a :: as, v :: vs, h => S_bind (S_fz h.1) fun x d hx => S_bind (S_fzs h.2) fun y ds hy => S_ret ⟨hx, hy⟩
  | [], _ :: _, h => h.elim
  | _ :: _, [], h => h.elim
theorem S_rds {c : Ctx} : ∀ {as : List AA} {vs : List AV}, aAll ρ as vs → Snd ρ c (gAll ρ) (rdsW as) (rds vs)
  | [], [], _ => S_ret trivial
  | a :: as, v :: vs, h => S_bind (S_rd h.1) fun x d hx => S_bind (S_rds h.2) fun y ds hy => S_ret ⟨hx, hy⟩
  | [], _ :: _, h => h.elim
  | _ :: _, [], h => h.elim
theorem S_opn {c : Ctx} {w : W AA} {m : M AV} (h : Snd ρ c (AA.r ρ) w m) : Snd ρ c (AA.r ρ) (opnW w) (opn m) := S_bind h fun _ _ h => S_nz h
theorem S_vl {c : Ctx} {w : W AA} {m : M AV} (h : Snd ρ c (AA.r ρ) w m) : Snd ρ c (A.g ρ) (vlW w) (vl m) := S_bind h fun _ _ h => S_fz h
theorem S_tr (HO : OpqOk O ρ) {c : Ctx} {a : AA} {v : AV} (h : a.r ρ v) : Snd ρ c BB.has (trW O a) (trA v) := S_bind (S_rd h) fun x d hx => S_lift fun p e => by
  obtain ⟨b, h1, h2⟩ := tr_ok HO e hx
  exact ⟨b, h1, h2⟩
end
end AM.AI
set_option Elab.async false
set_option linter.all false
set_option maxRecDepth 100000
set_option maxHeartbeats 4000000
/-! AI6: calls, methods, comprehensions on shapes. -/
namespace AM.AI
open PySem
inductive AArg where
  | val (a : A)
  | jar
  | io (l : A)
abbrev KM : Nat := 1000000000000
abbrev KMI : Int := 1000000000000
structure Cfg where
  O : Opq
  fn : Nat → List AArg → Option (Bool × A × Nat)
  by_ : Nat → List Bool
  sp : List Nat
section
variable (ρ : Nat → PyData → Prop)
def argR (t : Int) : AArg → FArg → Prop
  | .val a, .val d => a.g ρ d
  | .jar, .io xs => JarI t xs
  | .io l, .io xs => l.gl ρ xs
  | _, _ => False
def argsR (t : Int) : List AArg → List FArg → Prop
  | [], [] => True
  | a :: r, f :: fr => argR ρ t a f ∧ argsR t r fr
  | _, _ => False
def iosR (t : Int) : List AArg → List FArg → List (List PyData) → Prop
  | [], [], [] => True
  | .val _ :: r, .val _ :: fr, ios => iosR t r fr ios
  | .jar :: r, .io _ :: fr, ys :: ios => JarI t ys ∧ iosR t r fr ios
  | .io _ :: r, .io xs :: fr, ys :: ios => ys = xs ∧ iosR t r fr ios
  | _, _, _ => False
def rvR : Bool → A → RV → Prop
  | false, a, .val d => a.g ρ d
  | true, l, .new xs => l.gl ρ xs
  | _, _, _ => False
def SumOk (Φ : Calls) (T : Int) (f : Nat) (args : List AArg) (r : Bool × A × Nat) : Prop := ∀ t fargs, t ≤ T → argsR ρ t args fargs → ∃ v ios, Φ.go f fargs = .ret v ios ∧ rvR ρ r.1 r.2.1 v ∧ iosR (t + r.2.2) args fargs ios
structure CfgOk (C : Cfg) (Φ : Calls) (T : Int) : Prop where
  O : OpqOk C.O ρ
  fn : ∀ f args r, C.fn f args = some r → SumOk ρ Φ T f args r
  by_ : ∀ f, Φ.by_ f = C.by_ f
end
/-! #### calls -/
def lendA (a : AA) (b : Bool) (σ : AE) : Option (Option Nat) := match a, b with
  | .bor i, true => (match sa σ i with
    | .own _ _ => some (some i)
    | .ref _ _ => some (some i)
    | .jar _ _ => some (some i)
    | .val _ => some none
    | _ => none)
  | _, _ => some none
def prepA : List AA → List Bool → AE → Option (List AArg × List Nat × AE)
  | [], _, σ => some ([], [], σ)
  | a :: r, bs, σ => match lendA a (bs.headD false) σ with
    | none => none
    | some (some i) => (match prepA r bs.tail σ with
      | none => none
      | some (fs, is, σ') => if i ∈ is then none else (match sa σ' i with
        | .own _ l => some (.io l :: fs, i :: is, σ')
        | .ref _ l => some (.io l :: fs, i :: is, σ')
        | .jar _ _ => some (.jar :: fs, i :: is, σ')
        | _ => none))
    | some none => (match fzW a σ with
      | some [(d, σ1)] => (match prepA r bs.tail σ1 with
        | some (fs, is, σ') => some (.val d :: fs, is, σ')
        | none => none)
      | _ => none)
def jarKs (σ : AE) : List AArg → List Nat → Nat
  | .val _ :: r, is => jarKs σ r is
  | .io _ :: r, _ :: is => jarKs σ r is
  | .jar :: r, i :: is => (match sa σ i with
    | .jar _ k => max k (jarKs σ r is)
    | _ => jarKs σ r is)
  | _, _ => 0
def putA (kn : Nat) : List AArg → List Nat → AE → AE
  | .val _ :: r, is, σ => putA kn r is σ
  | .io _ :: r, _ :: is, σ => putA kn r is σ
  | .jar :: r, i :: is, σ => putA kn r is (match sa σ i with
    | .jar b _ => σ.set i (.jar b kn)
    | _ => σ)
  | _, _, σ => σ
def callW (C : Cfg) (f : Nat) (avs : List AA) : W AA := fun σ => match prepA avs (C.by_ f) σ with
  | none => none
  | some (fs, is, σ') => match C.fn f fs with
    | none => none
    | some (isNew, res, k) => if jarKs σ' fs is ≤ KM then fc (putA (jarKs σ' fs is + k) fs is σ') fun τ => fc res fun res => some [(if isNew then .new res else .val res, τ)] else none
/-! #### methods -/
def methW (O : Opq) (m : Mth) (x : AA) (avs : List AA) : W AA := match m, x, avs with
  | .append, .bor i, [a] => wb (fzW a) fun d σ => (match sa σ i with
    | .own b l => (match A.len l with
      | some (_, n) => if n < 1000000 then fc (σ.set i (.own b (A.app O l (.cons d .nil)))) fun τ => some [(.val .non, τ)] else none
      | none => none)
    | _ => none)
  | .extend, .bor i, [a] => wb (rdW a) fun d σ => (match sa σ i with
    | .own b l => (match d.seqL O with
      | some m => (match A.len l, A.len m with
        | some (_, n), some (_, n') => if n + n' ≤ 1000000 then fc (σ.set i (.own b (A.app O l m))) fun τ => some [(.val .non, τ)] else none
        | _, _ => none)
      | none => none)
    | _ => none)
  | .pop, .bor i, [] => fun σ => (match sa σ i with
    | .own b l => (match A.len l with
      | some (n, n') => if 0 < n then fc (σ.set i (.own b (if n = n' then l.take (n - 1) else .rep (A.allJ O FU l) (n - 1) (n' - 1)))) fun τ => fc (if n = n' then l.nth (n - 1) else A.allJ O FU l) fun a => some [(.val a, τ)] else none
      | none => none)
    | _ => none)
  | _, _, _ => wfail
def mOkW (m : Mth) (x : AA) : W Unit := match m, x with
  | .join, _ => wfail
  | _, .bor i => fun σ => (match sa σ i with
    | .own _ _ => some [((), σ)]
    | _ => none)
  | _, _ => wfail
/-! #### targets -/
mutual
def bindGA (O : Opq) : G → A → AE → Option AE
  | .nm i, a, σ => some (σ.set i (.val a))
  | .tp gs, a, σ => match a.seqT O with
    | some l => bindGsA O gs l σ
    | none => none
  | _, _, _ => none
def bindGsA (O : Opq) : G → A → AE → Option AE
  | .nil, l, σ => (match A.len l with
    | some (_, n) => if n = 0 then some σ else none
    | none => none)
  | .cons g gs, l, σ => (match A.len l with
    | some (m, n) => if 0 < m then (match bindGA O g (l.nth 0) σ with
      | some σ1 => bindGsA O gs (l.drop 1) σ1
      | none => none) else none
    | none => none)
  | _, _, _ => none
end
/-! #### the jar's count, less states -/
def jarK : AE → Nat
  | [] => 0
  | .jar _ k :: r => max k (jarK r)
  | _ :: r => jarK r
def setJ1 (k : Nat) : SL → SL
  | .jar b _ => .jar b k
  | x => x
def setJar (k : Nat) (σ : AE) : AE := σ.map (setJ1 k)
def leSl (O : Opq) (δ : Nat) : SL → SL → Bool
  | _, .top => true
  | .no, .no => true
  | .val a, .val b => A.le O FU a b
  | .own b l, .own b' m => (b == b') && A.leL O FU l m
  | .ref b l, .own b' m => (b == b') && A.leL O FU l m
  | .ref b l, .ref b' m => (b == b') && A.leL O FU l m
  | .jar b k, .jar b' k' => (b == b') && decide (k ≤ k' + δ)
  | _, _ => false
def leSt (O : Opq) (δ : Nat) : AE → AE → Bool
  | [], [] => true
  | a :: r, b :: r' => leSl O δ a b && leSt O δ r r'
  | _, _ => false
def joinSl (O : Opq) : SL → SL → SL
  | .no, .no => .no
  | .val a, .val b => .val (A.join O FU a b)
  | .own b l, .own b' m => if b = b' then .own b (A.joinL O FU l m) else .top
  | .ref b l, .ref b' m => if b = b' then .ref b (A.joinL O FU l m) else .top
  | .ref b l, .own b' m => if b = b' then .own b (A.joinL O FU l m) else .top
  | .own b l, .ref b' m => if b = b' then .own b (A.joinL O FU l m) else .top
  | .jar b k, .jar b' k' => if b = b' then .jar b (max k k') else .top
  | _, _ => .top
def joinSt (O : Opq) : AE → AE → Option AE
  | [], [] => some []
  | a :: r, b :: r' => match joinSt O r r' with
    | some x => some (joinSl O a b :: x)
    | none => none
  | _, _ => none
/-! #### comprehensions -/
def wipeS (σ : AE) : List Nat → AE
  | [] => σ
  | v :: vs => (wipeS σ vs).set v .no
def ownish : SL → Bool
  | .no => false
  | .val _ => false
  | _ => true
def refS (i : Nat) (σ : AE) : Option AE := match sa σ i with
  | .own b l => some (σ.set i (.ref b l))
  | .ref _ _ => some σ
  | _ => none
def compEnds (elt : W A) : List (Bool × AE) → Option (List (Option A × AE))
  | [] => some []
  | (true, σ) :: r => (match elt σ with
    | none => none
    | some os => (match compEnds elt r with
      | none => none
      | some x => some (os.map (fun p => (some p.1, p.2)) ++ x)))
  | (false, σ) :: r => (match compEnds elt r with
      | none => none
      | some x => some ((none, σ) :: x))
def resJ (O : Opq) : List (Option A × AE) → A
  | [] => .bot
  | (some a, _) :: r => A.join O FU a (resJ O r)
  | (none, _) :: r => resJ O r
abbrev DD1 : Nat := 1000000
def maxK : List AE → Nat
  | [] => 0
  | σ :: r => max (jarK σ) (maxK r)
def gdIn (own : List Nat) : Option Nat → Bool
  | some i => own.contains i
  | none => false
def gdRef (σ : AE) : Option Nat → Option AE
  | some i => refS i σ
  | none => some σ
def compW (O : Opq) (p : A × Option Nat) (own : List Nat) (g : G) (tests : W Bool) (elt : W A) : W AA := fun σ =>
  if own.any fun v => ownish (sa σ v) then none else
  if gdIn own p.2 then none else
  match A.len p.1 with
  | none => none
  | some (lo, hi) =>
    if hi = 0 then some [(.new .nil, σ)] else
    if 1000000 < hi then none else
    fc (jarK σ + hi * DD1) fun ks => fc (A.allJ O FU p.1) fun pa =>
    match gdRef (wipeS (setJar ks σ) own) p.2 with
    | none => none
    | some σ2 => fc σ2 fun σ2 => match bindGA O g pa σ2 with
      | none => none
      | some σ3 => fc σ3 fun σ3 => match tests σ3 with
        | none => none
        | some outs => match compEnds elt outs with
          | none => none
          | some es => fc es fun es => fc (maxK (es.map (·.2)) - ks) fun δ =>
            if decide (δ ≤ DD1) && es.all (fun e => leSt O δ (wipeS e.2 own) σ2) then
              fc (setJar (jarK σ + hi * δ) σ) fun τ => fc (resJ O es) fun x => some [(.new (.rep x (if es.any (fun e => e.1.isNone) then 0 else lo) hi), τ)]
            else none
end AM.AI
set_option Elab.async false
set_option linter.all false
set_option maxRecDepth 100000
set_option maxHeartbeats 4000000
/-! AI7: calls, methods, comprehensions are sound. -/
namespace AM.AI
open PySem
section
variable {ρ : Nat → PyData → Prop}
theorem argR_mono {t t' : Int} (h : t ≤ t') : ∀ {as : List AArg} {fs : List FArg}, argsR ρ t as fs → argsR ρ t' as fs
  | [], [], _ => trivial
  | a :: as, f :: fs, g => ⟨by
      cases a <;> cases f <;> first | exact g.1 | exact g.1.elim | exact JarI.mono g.1 h, argR_mono h g.2⟩
  | [], _ :: _, g => g.elim
  | _ :: _, [], g => g.elim
/-- the slots that are lent -/
def pR (ρ : Nat → PyData → Prop) (c : Ctx) (σ : AE) (s : AS) : List AArg → List FArg → List Nat → Prop
  | [], [], [] => True
  | .val a :: r, .val d :: fr, is => a.g ρ d ∧ pR ρ c σ s r fr is
  | .io l :: r, .io ys :: fr, i :: is => (∃ b, sl s i = some (.own b ys)) ∧ l.gl ρ ys ∧ i ∉ is ∧ pR ρ c σ s r fr is
  | .jar :: r, .io ys :: fr, i :: is => (∃ b k, sl s i = some (.own b ys) ∧ sa σ i = .jar b k ∧ JarI (c.t0 + k) ys) ∧ i ∉ is ∧ pR ρ c σ s r fr is
  | _, _, _ => False
theorem pR_same {c : Ctx} {σ τ : AE} {s u : AS} : ∀ {as : List AArg} {fs : List FArg} {is : List Nat}, (∀ j ∈ is, sa τ j = sa σ j ∧ sl u j = sl s j) → pR ρ c σ s as fs is → pR ρ c τ u as fs is
  | [], [], [], _, _ => trivial
  | .val a :: r, .val d :: fr, is, h, g => ⟨g.1, pR_same h g.2⟩
  | .io l :: r, .io ys :: fr, i :: is, h, g => by
    obtain ⟨⟨b, g1⟩, g2, g3, g4⟩ := g
    exact ⟨⟨b, by rw [(h i (List.mem_cons_self ..)).2]; exact g1⟩, g2, g3, pR_same (fun j m => h j (List.mem_cons_of_mem _ m)) g4⟩
  | .jar :: r, .io ys :: fr, i :: is, h, g => by
    obtain ⟨⟨b, k, g1, g1', g2⟩, g3, g4⟩ := g
    exact ⟨⟨b, k, by rw [(h i (List.mem_cons_self ..)).2]; exact g1, by rw [(h i (List.mem_cons_self ..)).1]; exact g1', g2⟩, g3, pR_same (fun j m => h j (List.mem_cons_of_mem _ m)) g4⟩
  | [], [], _ :: _, _, g => by simp [pR] at g
  | [], _ :: _, _, _, g => by simp [pR] at g
  | .val a :: r, [], is, _, g => by simp [pR] at g
  | .val a :: r, .io _ :: _, is, _, g => by simp [pR] at g
  | .io a :: r, [], is, _, g => by simp [pR] at g
  | .io a :: r, .val _ :: _, is, _, g => by simp [pR] at g
  | .io a :: r, .io _ :: _, [], _, g => by simp [pR] at g
  | .jar :: r, [], is, _, g => by simp [pR] at g
  | .jar :: r, .val _ :: _, is, _, g => by simp [pR] at g
  | .jar :: r, .io _ :: _, [], _, g => by simp [pR] at g
theorem prep_ok {c : Ctx} : ∀ {as : List AA} {vs : List AV} {bs : List Bool} {σ σ' : AE} {s : AS} {fs : List AArg} {is : List Nat}, aAll ρ as vs → rel ρ c σ s → prepA as bs σ = some (fs, is, σ') → ∃ ffs s', prep vs bs s = some (ffs, is, s') ∧ rel ρ c σ' s' ∧ pR ρ c σ' s' fs ffs is := by
  intro as
  induction as with
  | nil =>
    intro vs bs σ σ' s fs is ha hr e
    cases vs with
    | cons _ _ => exact ha.elim
    | nil =>
      simp only [prepA, Option.some.injEq, Prod.mk.injEq] at e
      obtain ⟨rfl, rfl, rfl⟩ := e
      exact ⟨[], s, rfl, hr, trivial⟩
  | cons a as ih =>
    intro vs bs σ σ' s fs is ha hr e
    cases vs with
    | nil => exact ha.elim
    | cons v vs =>
      obtain ⟨ha1, ha2⟩ := ha
      unfold prepA at e
      cases hl : lendA a (bs.headD false) σ with
      | none => rw [hl] at e; cases e
      | some o =>
        cases o with
        | some i =>
          rw [hl] at e
          simp only at e
          cases hp : prepA as bs.tail σ with
          | none => rw [hp] at e; cases e
          | some q =>
            obtain ⟨fs1, is1, σ1⟩ := q
            rw [hp] at e
            simp only at e
            obtain ⟨ffs, s', h1, h2, h3⟩ := ih ha2 hr hp
            by_cases hi : i ∈ is1
            · rw [if_pos hi] at e; cases e
            · rw [if_neg hi] at e
              -- the machine lends, too
              have hv : v = .bor i ∧ bs.headD false = true ∧ ∃ b xs, sl s i = some (.own b xs) := by
                unfold lendA at hl
                split at hl
                · rename_i j hb
                  cases v with
                  | bor j' =>
                    have : j = j' := ha1
                    subst this
                    have hs := hr.at_ j
                    split at hl
                    · rename_i hq; cases hl; rw [hq] at hs; obtain ⟨xs, e1, _⟩ := hs; exact ⟨rfl, hb, _, _, e1⟩
                    · rename_i hq; cases hl; rw [hq] at hs; exact ⟨rfl, hb, _, _, hs.1⟩
                    · rename_i hq; cases hl; rw [hq] at hs; obtain ⟨xs, e1, _⟩ := hs; exact ⟨rfl, hb, _, _, e1⟩
                    · cases hl
                    · cases hl
                  | _ => exact ha1.elim
                · cases hl
              obtain ⟨rfl, hb, b, xs, hs⟩ := hv
              have hs' := h2.at_ i
              have key : ∀ ys b, sl s' i = some (.own b ys) → prep (.bor i :: vs) bs s = some (.io ys :: ffs, i :: is1, s') := by
                intro ys b hy
                unfold prep
                rw [hb]
                dsimp only
                rw [hs]
                dsimp only
                rw [h1]
                simp [hi, hy]
              split at e
              · rename_i hq
                rw [hq] at hs'
                obtain ⟨ys, e1, g⟩ := hs'
                cases e
                exact ⟨_, s', key ys _ e1, h2, ⟨_, e1⟩, g, hi, h3⟩
              · rename_i hq
                rw [hq] at hs'
                obtain ⟨e1, g⟩ := hs'
                cases e
                exact ⟨_, s', key _ _ e1, h2, ⟨_, e1⟩, g, hi, h3⟩
              · rename_i b' k hq
                rw [hq] at hs'
                obtain ⟨ys, e1, g⟩ := hs'
                cases e
                exact ⟨_, s', key ys _ e1, h2, ⟨_, _, e1, hq, g⟩, hi, h3⟩
              · cases e
        | none =>
          rw [hl] at e
          simp only at e
          split at e
          · rename_i d σ1 hf
            split at e
            · rename_i fs1 is1 σ2 hp
              cases e
              obtain ⟨x, s1, e1, a', σa, hm, hg, hr1⟩ := S_fz ha1 σ s _ hr hf
              cases List.mem_singleton.mp hm
              obtain ⟨ffs, s', h1, h2, h3⟩ := ih ha2 hr1 hp
              refine ⟨.val x :: ffs, s', ?_, h2, hg, h3⟩
              have fin : ∀ X : Option (Nat × List PyData), X = none → (match X with
                | some (i, xs) => (prep vs bs.tail s).bind fun (fs, is, s') => if i ∈ is then none else (match sl s' i with
                  | some (.own _ ys) => some (.io ys :: fs, i :: is, s')
                  | _ => none)
                | none => match fz v s with
                  | .ok d s1 => (prep vs bs.tail s1).map fun (fs, is, s') => (.val d :: fs, is, s')
                  | _ => none) = some (.val x :: ffs, is, s') := by
                intro X hX
                subst hX
                dsimp only
                rw [e1]
                dsimp only
                rw [h1]
                rfl
              unfold prep
              refine fin _ ?_
              cases v with
              | val d => rfl
              | new xs => rfl
              | bor j =>
                cases a with
                | bor j' =>
                  have : j' = j := ha1
                  subst this
                  have hs := hr.at_ j'
                  cases hb : bs.headD false with
                  | false => rfl
                  | true =>
                    unfold lendA at hl
                    rw [hb] at hl
                    dsimp only at hl ⊢
                    cases hq : sa σ j' with
                    | val y =>
                      rw [hq] at hs
                      obtain ⟨y, e2, _⟩ := hs
                      simp only [e2]
                    | no => rw [hq] at hl; cases hl
                    | top => rw [hq] at hl; cases hl
                    | own _ _ => rw [hq] at hl; cases hl
                    | jar _ _ => rw [hq] at hl; cases hl
                    | ref _ _ => rw [hq] at hl; cases hl
                | _ => exact ha1.elim
            · cases e
          · cases e
theorem pR_args {c : Ctx} {σ : AE} {s : AS} : ∀ {as : List AArg} {fs : List FArg} {is : List Nat} {K : Nat}, jarKs σ as is ≤ K → pR ρ c σ s as fs is → argsR ρ (c.t0 + K) as fs
  | [], [], [], K, _, _ => trivial
  | .val a :: r, .val d :: fr, is, K, h, g => ⟨g.1, pR_args (is := is) h g.2⟩
  | .io l :: r, .io ys :: fr, i :: is, K, h, g => ⟨g.2.1, pR_args (is := is) h g.2.2.2⟩
  | .jar :: r, .io ys :: fr, i :: is, K, h, g => by
    obtain ⟨⟨b, k, g1, g1', g2⟩, g3, g4⟩ := g
    unfold jarKs at h
    rw [g1'] at h
    dsimp only at h
    exact ⟨g2.mono (by omega), pR_args (is := is) (by omega) g4⟩
  | [], [], _ :: _, _, _, g => by simp [pR] at g
  | [], _ :: _, _, _, _, g => by simp [pR] at g
  | .val a :: r, [], is, _, _, g => by simp [pR] at g
  | .val a :: r, .io _ :: _, is, _, _, g => by simp [pR] at g
  | .io a :: r, [], is, _, _, g => by simp [pR] at g
  | .io a :: r, .val _ :: _, is, _, _, g => by simp [pR] at g
  | .io a :: r, .io _ :: _, [], _, _, g => by simp [pR] at g
  | .jar :: r, [], is, _, _, g => by simp [pR] at g
  | .jar :: r, .val _ :: _, is, _, _, g => by simp [pR] at g
  | .jar :: r, .io _ :: _, [], _, _, g => by simp [pR] at g
theorem rel_set1 {c : Ctx} {σ : AE} {s : AS} {i : Nat} {o : Option SV} (h : rel ρ c σ s) (hv : slR ρ c i (sa σ i) o) : rel ρ c σ (s.set i o) := by
  refine ⟨by rw [List.length_set]; exact h.len, fun j => ?_⟩
  rw [sl_set]
  split
  · rename_i e
    obtain ⟨rfl, _⟩ := e
    exact hv
  · exact h.at_ j
theorem set_ne {s : AS} {i j : Nat} {o : Option SV} (h : i ≠ j) : sl (s.set i o) j = sl s j := by
  rw [sl_set, if_neg (fun e => h e.1)]
theorem sa_ne {s : AE} {i j : Nat} {o : SL} (h : i ≠ j) : sa (s.set i o) j = sa s j := by
  rw [sa_set, if_neg (fun e => h e.1)]
theorem putA_ok {c : Ctx} {kn : Nat} : ∀ {as : List AArg} {fs : List FArg} {is : List Nat} {ios : List (List PyData)} {σ : AE} {s : AS}, rel ρ c σ s → pR ρ c σ s as fs is → iosR (c.t0 + kn) as fs ios → rel ρ c (putA kn as is σ) (putIos is ios s)
  | [], [], [], [], σ, s, hr, _, _ => hr
  | .val a :: r, .val d :: fr, is, ios, σ, s, hr, g, h => by
    have := putA_ok (is := is) hr g.2 h
    exact this
  | .io l :: r, .io ys :: fr, i :: is, zs :: ios, σ, s, hr, g, h => by
    obtain ⟨⟨b, g1⟩, g2, g3, g4⟩ := g
    obtain ⟨rfl, h⟩ := h
    have e : setOwn i zs s = s.set i (some (.own b zs)) := by
      unfold setOwn
      rw [g1]
    show rel ρ c (putA kn r is σ) (putIos is ios (setOwn i zs s))
    rw [e]
    refine putA_ok (is := is) (rel_set1 hr ?_) (pR_same (fun j m => ⟨rfl, set_ne (by rintro rfl; exact g3 m)⟩) g4) h
    rw [← g1]
    exact hr.at_ i
  | .jar :: r, .io ys :: fr, i :: is, zs :: ios, σ, s, hr, g, h => by
    obtain ⟨⟨b, k, g1, g1', g2⟩, g3, g4⟩ := g
    obtain ⟨hz, h⟩ := h
    have e : setOwn i zs s = s.set i (some (.own b zs)) := by
      unfold setOwn
      rw [g1]
    show rel ρ c (putA kn r is (match sa σ i with
      | .jar b _ => σ.set i (.jar b kn)
      | _ => σ)) (putIos is ios (setOwn i zs s))
    rw [e, g1']
    dsimp only
    exact putA_ok (is := is) (rel_set hr ⟨zs, rfl, hz⟩) (pR_same (fun j m => ⟨sa_ne (by rintro rfl; exact g3 m), set_ne (by rintro rfl; exact g3 m)⟩) g4) h
  | [], [], [], _ :: _, _, _, _, _, h => by simp [iosR] at h
  | [], [], _ :: _, _, _, _, _, g, _ => by simp [pR] at g
  | [], _ :: _, _, _, _, _, _, g, _ => by simp [pR] at g
  | .val a :: r, [], is, _, _, _, _, g, _ => by simp [pR] at g
  | .val a :: r, .io _ :: _, is, _, _, _, _, g, _ => by simp [pR] at g
  | .io a :: r, [], is, _, _, _, _, g, _ => by simp [pR] at g
  | .io a :: r, .val _ :: _, is, _, _, _, _, g, _ => by simp [pR] at g
  | .io a :: r, .io _ :: _, [], _, _, _, _, g, _ => by simp [pR] at g
  | .io a :: r, .io _ :: _, _ :: _, [], _, _, _, _, h => by simp [iosR] at h
  | .jar :: r, [], is, _, _, _, _, g, _ => by simp [pR] at g
  | .jar :: r, .val _ :: _, is, _, _, _, _, g, _ => by simp [pR] at g
  | .jar :: r, .io _ :: _, [], _, _, _, _, g, _ => by simp [pR] at g
  | .jar :: r, .io _ :: _, _ :: _, [], _, _, _, _, h => by simp [iosR] at h
theorem S_call {C : Cfg} {Φ : Calls} {T : Int} (HC : CfgOk ρ C Φ T) {c : Ctx} (hc : c.t0 + KMI ≤ T) {f : Nat} {as : List AA} {vs : List AV} (ha : aAll ρ as vs) : Snd ρ c (AA.r ρ) (callW C f as) (callA Φ f vs) := by
  intro σ s outs hr e
  unfold callW at e
  split at e
  · cases e
  · rename_i fs is σ' hp
    split at e
    · cases e
    · rename_i isNew res k hf
      split at e
      · rename_i hk
        simp only [fc_eq] at e
        cases e
        obtain ⟨ffs, s', h1, h2, h3⟩ := prep_ok ha hr hp
        have h4 := pR_args (Nat.le_refl _) h3
        have hT : c.t0 + (jarKs σ' fs is : Nat) ≤ T := by
          have hk' : jarKs σ' fs is ≤ 1000000000000 := hk
          have hc' : c.t0 + 1000000000000 ≤ T := hc
          omega
        obtain ⟨v, ios, e1, hv, hi⟩ := HC.fn f fs _ hf _ _ hT h4
        have hrel := putA_ok (kn := jarKs σ' fs is + k) h2 h3 (by
          have : c.t0 + ((jarKs σ' fs is + k : Nat) : Int) = c.t0 + (jarKs σ' fs is : Nat) + (k : Nat) := by omega
          rw [this]
          exact hi)
        refine ⟨rvA v, putIos is ios s', ?_, _, _, List.mem_singleton.mpr rfl, ?_, hrel⟩
        · unfold callA
          rw [HC.by_ f, h1]
          dsimp only
          rw [e1]
        · cases isNew with
          | true => cases v with
            | new xs => exact hv
            | val d => exact hv.elim
          | false => cases v with
            | new xs => exact hv.elim
            | val d => exact hv
      · cases e
/-! #### methods -/
theorem lt_line {n : Nat} (h : n < 1000000) : n < sizeLine := Nat.lt_of_lt_of_le h (by rw [sizeLine_eq]; decide)
theorem S_mok {c : Ctx} {m : Mth} {x : AA} {v : AV} (h : x.r ρ v) : Snd ρ c (fun _ _ => True) (mOkW m x) (mOk m v) := by
  intro σ s outs hr e
  unfold mOkW at e
  split at e
  · cases e
  · rename_i m' i hm
    cases v with
    | bor j =>
      have : i = j := h
      subst this
      have hs := hr.at_ i
      dsimp only at e
      cases hq : sa σ i with
      | own b l =>
        rw [hq] at hs e
        cases e
        obtain ⟨xs, e1, _⟩ := hs
        refine ⟨(), s, ?_, (), _, List.mem_singleton.mpr rfl, trivial, hr⟩
        cases m with
        | join => exact absurd rfl hm
        | _ => unfold mOk; simp only [e1]
      | _ => rw [hq] at e; cases e
    | _ => exact h.elim
  · cases e
theorem S_meth {O : Opq} (HO : OpqOk O ρ) {c : Ctx} {m : Mth} {x : AA} {v : AV} {as : List AA} {vs : List AV} (h : x.r ρ v) (ha : aAll ρ as vs) : Snd ρ c (AA.r ρ) (methW O m x as) (methM m v vs) := by
  unfold methW
  split
  · rename_i i a
    cases v with
    | bor j =>
      have : i = j := h
      subst this
      cases vs with
      | nil => exact ha.elim
      | cons w ws =>
        cases ws with
        | cons _ _ => exact ha.2.elim
        | nil =>
          refine S_bind (S_fz ha.1) fun d y hd => ?_
          intro σ s outs hr e
          have hs := hr.at_ i
          dsimp only at e
          cases hq : sa σ i with
          | no => rw [hq] at e; cases e
          | top => rw [hq] at e; cases e
          | val _ => rw [hq] at e; cases e
          | jar _ _ => rw [hq] at e; cases e
          | ref _ _ => rw [hq] at e; cases e
          | own b l =>
            rw [hq] at hs e
            obtain ⟨xs, e1, g⟩ := hs
            dsimp only at e
            split at e
            · rename_i n1 n hn
              split at e
              · rename_i hlt
                simp only [fc_eq] at e
                cases e
                have := len_ok hn g
                have hz : xs.length < sizeLine := lt_line (by omega)
                refine ⟨.val .none, s.set i (some (.own b (xs ++ [y]))), ?_, _, _, List.mem_singleton.mpr rfl, rfl, rel_set hr ⟨_, rfl, app_ok HO g ⟨y, [], rfl, hd, rfl⟩⟩⟩
                simp [e1, hz]
              · cases e
            · cases e
    | _ => exact h.elim
  · rename_i i a
    cases v with
    | bor j =>
      have : i = j := h
      subst this
      cases vs with
      | nil => exact ha.elim
      | cons w ws =>
        cases ws with
        | cons _ _ => exact ha.2.elim
        | nil =>
          refine S_bind (S_rd ha.1) fun d y hd => ?_
          intro σ s outs hr e
          have hs := hr.at_ i
          dsimp only at e
          cases hq : sa σ i with
          | no => rw [hq] at e; cases e
          | top => rw [hq] at e; cases e
          | val _ => rw [hq] at e; cases e
          | jar _ _ => rw [hq] at e; cases e
          | ref _ _ => rw [hq] at e; cases e
          | own b l =>
            rw [hq] at hs e
            obtain ⟨xs, e1, g⟩ := hs
            dsimp only at e
            split at e
            · rename_i m' hm
              obtain ⟨ys, rfl, gy⟩ := seqL_ok HO hm hd
              split at e
              · rename_i n1 n n1' n' hn hn'
                split at e
                · rename_i hlt
                  simp only [fc_eq] at e
                  cases e
                  have := len_ok hn g
                  have := len_ok hn' gy
                  have hz : fits (xs.length + ys.length) = true := fits_of (by omega)
                  refine ⟨.val .none, s.set i (some (.own b (xs ++ ys))), ?_, _, _, List.mem_singleton.mpr rfl, rfl, rel_set hr ⟨_, rfl, app_ok HO g gy⟩⟩
                  simp [e1, hz]
                · cases e
              · cases e
            · cases e
    | _ => exact h.elim
  · rename_i i
    cases v with
    | bor j =>
      have : i = j := h
      subst this
      cases vs with
      | cons _ _ => exact ha.elim
      | nil =>
        intro σ s outs hr e
        have hs := hr.at_ i
        dsimp only at e
        cases hq : sa σ i with
        | no => rw [hq] at e; cases e
        | top => rw [hq] at e; cases e
        | val _ => rw [hq] at e; cases e
        | jar _ _ => rw [hq] at e; cases e
        | ref _ _ => rw [hq] at e; cases e
        | own b l =>
          rw [hq] at hs e
          obtain ⟨xs, e1, g⟩ := hs
          dsimp only at e
          split at e
          · rename_i n n' hn
            split at e
            · rename_i hlt
              simp only [fc_eq] at e
              cases e
              have hl := len_ok hn g
              have hx : xs.length - 1 < xs.length := by omega
              have ex : xs[xs.length - 1]? = some xs[xs.length - 1] := List.getElem?_eq_getElem hx
              refine ⟨.val xs[xs.length - 1], s.set i (some (.own b xs.dropLast)), ?_, _, _, List.mem_singleton.mpr rfl, ?_, rel_set hr ⟨_, rfl, ?_⟩⟩
              · simp only [methM, e1, ex]
              · show A.g ρ _ _
                split
                · have : n - 1 = xs.length - 1 := by omega
                  rw [this]
                  exact nth_ok g ex
                · exact allJ_ok HO g (List.getElem_mem hx)
              · rw [List.dropLast_eq_take]
                split
                · have : n - 1 = xs.length - 1 := by omega
                  rw [this]
                  exact take_ok g
                · exact ⟨by rw [List.length_take]; omega, by rw [List.length_take]; omega, fun z hz => allJ_ok HO g (List.mem_of_mem_take hz)⟩
            · cases e
          · cases e
    | _ => exact h.elim
  · exact S_fail
/-! #### targets -/
theorem bindGA_ok {O : Opq} (HO : OpqOk O ρ) {c : Ctx} : ∀ (g : G), (∀ {a : A} {d : PyData} {σ σ' : AE} {s : AS}, bindGA O g a σ = some σ' → a.g ρ d → rel ρ c σ s → ∃ s', bindG g d s = some s' ∧ rel ρ c σ' s') ∧ (∀ {l : A} {ds : List PyData} {σ σ' : AE} {s : AS}, bindGsA O g l σ = some σ' → l.gl ρ ds → rel ρ c σ s → ∃ s', bindGs g ds s = some s' ∧ rel ρ c σ' s') := by
  intro g
  induction g with
  | nm i =>
    refine ⟨fun {a d σ σ' s} e g hr => ?_, fun {l ds σ σ' s} e => by simp [bindGsA] at e⟩
    simp only [bindGA, Option.some.injEq] at e
    subst e
    exact ⟨_, rfl, rel_set hr ⟨d, rfl, g⟩⟩
  | tp gs ih =>
    refine ⟨fun {a d σ σ' s} e g hr => ?_, fun {l ds σ σ' s} e => by simp [bindGsA] at e⟩
    simp only [bindGA] at e
    split at e
    · rename_i l hl
      obtain ⟨xs, rfl, gx⟩ := seqT_ok HO hl g
      obtain ⟨s', h1, h2⟩ := ih.2 e gx hr
      exact ⟨s', by rw [bindG_tp]; exact h1, h2⟩
    · cases e
  | nil =>
    refine ⟨fun {a d σ σ' s} e => by simp [bindGA] at e, fun {l ds σ σ' s} e g hr => ?_⟩
    simp only [bindGsA] at e
    split at e
    · rename_i m n hn
      split at e
      · cases e
        have := len_ok hn g
        obtain rfl : ds = [] := List.eq_nil_of_length_eq_zero (by omega)
        exact ⟨s, rfl, hr⟩
      · cases e
    · cases e
  | cons g gs ih1 ih2 =>
    refine ⟨fun {a d σ σ' s} e => by simp [bindGA] at e, fun {l ds σ σ' s} e gd hr => ?_⟩
    simp only [bindGsA] at e
    split at e
    · rename_i m n hn
      split at e
      · rename_i hm
        split at e
        · rename_i σ1 h1
          have := len_ok hn gd
          cases ds with
          | nil => simp at this; omega
          | cons d ds =>
            obtain ⟨s1, h2, h3⟩ := ih1.1 h1 (nth_ok gd (i := 0) rfl) hr
            obtain ⟨s', h4, h5⟩ := ih2.2 e (drop_ok (n := 1) gd) h3
            exact ⟨s', by rw [bindGs_cons, h2]; exact h4, h5⟩
        · cases e
      · cases e
    · cases e
end
end AM.AI
set_option Elab.async false
set_option linter.all false
set_option maxRecDepth 100000
set_option maxHeartbeats 4000000
/-! AI8: comprehensions are sound. -/
namespace AM.AI
open PySem
section
variable {ρ : Nat → PyData → Prop}
theorem sa_map (k : Nat) (σ : AE) (i : Nat) : sa (setJar k σ) i = setJ1 k (sa σ i) := by
  unfold sa setJar
  rw [List.getElem?_map]
  cases σ[i]? <;> rfl
theorem len_setJar (k : Nat) (σ : AE) : (setJar k σ).length = σ.length := by unfold setJar; rw [List.length_map]
theorem jarK_le : ∀ {σ : AE} {i : Nat} {b : Bool} {k : Nat}, sa σ i = .jar b k → k ≤ jarK σ
  | [], i, b, k, h => by simp [sa] at h
  | x :: σ, 0, b, k, h => by
    have : x = .jar b k := h
    subst this
    unfold jarK
    omega
  | x :: σ, i + 1, b, k, h => by
    have h' : sa σ i = .jar b k := h
    have := jarK_le h'
    cases x <;> simp only [jarK] <;> omega
theorem len_wipeS : ∀ (σ : AE) (own : List Nat), (wipeS σ own).length = σ.length
  | σ, [] => rfl
  | σ, v :: vs => by unfold wipeS; rw [List.length_set]; exact len_wipeS σ vs
theorem len_wipeA : ∀ (s : AS) (own : List Nat), (wipeA s own).length = s.length
  | σ, [] => rfl
  | σ, v :: vs => by unfold wipeA; rw [List.length_set]; exact len_wipeA σ vs
theorem len_backA : ∀ (s0 s : AS) (own : List Nat), (backA s0 s own).length = s.length
  | s0, σ, [] => rfl
  | s0, σ, v :: vs => by unfold backA; rw [List.length_set]; exact len_backA s0 σ vs
theorem sa_wipe (σ : AE) (i : Nat) : ∀ own : List Nat, sa (wipeS σ own) i = if i ∈ own ∧ i < σ.length then .no else sa σ i
  | [] => by simp [wipeS]
  | v :: vs => by
    unfold wipeS
    rw [sa_set, sa_wipe σ i vs, len_wipeS]
    by_cases h : v = i
    · subst h
      by_cases h2 : v < σ.length <;> simp [h2]
    · have h' : ¬ i = v := fun e => h e.symm
      simp [h, h']
theorem sl_wipe (s : AS) (i : Nat) : ∀ own : List Nat, sl (wipeA s own) i = if i ∈ own ∧ i < s.length then none else sl s i
  | [] => by simp [wipeA]
  | v :: vs => by
    unfold wipeA
    rw [sl_set, sl_wipe s i vs, len_wipeA]
    by_cases h : v = i
    · subst h
      by_cases h2 : v < s.length <;> simp [h2]
    · have h' : ¬ i = v := fun e => h e.symm
      simp [h, h']
theorem sl_back (s0 s : AS) (i : Nat) : ∀ own : List Nat, sl (backA s0 s own) i = if i ∈ own ∧ i < s.length then sl s0 i else sl s i
  | [] => by simp [backA]
  | v :: vs => by
    unfold backA
    rw [sl_set, sl_back s0 s i vs, len_backA]
    by_cases h : v = i
    · subst h
      by_cases h2 : v < s.length <;> simp [h2]
    · have h' : ¬ i = v := fun e => h e.symm
      simp [h, h']
theorem rel_wipe {c : Ctx} {σ : AE} {s : AS} (own : List Nat) (h : rel ρ c σ s) : rel ρ c (wipeS σ own) (wipeA s own) := by
  refine ⟨by rw [len_wipeS, len_wipeA]; exact h.len, fun i => ?_⟩
  rw [sa_wipe, sl_wipe, h.len]
  split
  · rfl
  · exact h.at_ i
theorem rel_wipe1 {c : Ctx} {σ : AE} {s : AS} {own : List Nat} (h : rel ρ c σ s) (hn : ∀ v ∈ own, v < σ.length → sa σ v = .no) : rel ρ c σ (wipeA s own) := by
  refine ⟨by rw [len_wipeA]; exact h.len, fun i => ?_⟩
  rw [sl_wipe, h.len]
  split
  · rename_i hi
    rw [hn i hi.1 hi.2]
    rfl
  · exact h.at_ i
theorem leSl_ok {O : Opq} (HO : OpqOk O ρ) {c c' : Ctx} {δ : Nat} {i : Nat} {x y : SL} {o : Option SV} (h : leSl O δ x y = true) (ht : c.t0 + δ ≤ c'.t0) (hth : c'.th = c.th) (g : slR ρ c i x o) : slR ρ c' i y o := by
  unfold leSl at h
  split at h
  · trivial
  · exact g
  · obtain ⟨d, e, g⟩ := g
    exact ⟨d, e, (le_ok HO FU).1 _ _ h d g⟩
  · rw [Bool.and_eq_true, beq_iff_eq] at h
    obtain ⟨xs, e, g⟩ := g
    obtain ⟨rfl, h⟩ := h
    exact ⟨xs, e, (le_ok HO FU).2.1 _ _ h xs g⟩
  · rw [Bool.and_eq_true, beq_iff_eq] at h
    obtain ⟨e, g⟩ := g
    obtain ⟨rfl, h⟩ := h
    exact ⟨_, e, (le_ok HO FU).2.1 _ _ h _ g⟩
  · rw [Bool.and_eq_true, beq_iff_eq] at h
    obtain ⟨e, g⟩ := g
    obtain ⟨rfl, h⟩ := h
    refine ⟨by rw [hth]; exact e, ?_⟩
    rw [hth]
    exact (le_ok HO FU).2.1 _ _ h _ g
  · rw [Bool.and_eq_true, beq_iff_eq, decide_eq_true_eq] at h
    obtain ⟨xs, e, g⟩ := g
    obtain ⟨rfl, h⟩ := h
    exact ⟨xs, e, g.mono (by omega)⟩
  · cases h
theorem leSt_at {O : Opq} {δ : Nat} : ∀ {σ τ : AE}, leSt O δ σ τ = true → σ.length = τ.length ∧ ∀ i, leSl O δ (sa σ i) (sa τ i) = true
  | [], [], _ => ⟨rfl, fun i => rfl⟩
  | a :: σ, b :: τ, h => by
    unfold leSt at h
    rw [Bool.and_eq_true] at h
    obtain ⟨h1, h2⟩ := leSt_at h.2
    refine ⟨by simp [h1], fun i => ?_⟩
    cases i with
    | zero => exact h.1
    | succ i => exact h2 i
  | [], _ :: _, h => by simp [leSt] at h
  | _ :: _, [], h => by simp [leSt] at h
theorem leSt_ok {O : Opq} (HO : OpqOk O ρ) {c c' : Ctx} {δ : Nat} {σ τ : AE} {s : AS} (h : leSt O δ σ τ = true) (ht : c.t0 + δ ≤ c'.t0) (hth : c'.th = c.th) (g : rel ρ c σ s) : rel ρ c' τ s := by
  obtain ⟨h1, h2⟩ := leSt_at h
  exact ⟨by rw [← h1]; exact g.len, fun i => leSl_ok HO (h2 i) ht hth (g.at_ i)⟩
theorem compEnds_t {elt : W A} : ∀ {l : List (Bool × AE)} {es : List (Option A × AE)} {σ : AE}, compEnds elt l = some es → (true, σ) ∈ l → ∃ os, elt σ = some os ∧ ∀ p ∈ os, (some p.1, p.2) ∈ es
  | [], _, _, _, m => by cases m
  | (true, τ) :: r, es, σ, e, m => by
    unfold compEnds at e
    cases h1 : elt τ with
    | none => rw [h1] at e; cases e
    | some os =>
      cases h2 : compEnds elt r with
      | none => rw [h1, h2] at e; cases e
      | some x =>
        rw [h1, h2] at e
        cases e
        rcases List.mem_cons.mp m with e | m
        · cases e
          exact ⟨os, h1, fun p hp => List.mem_append_left _ (List.mem_map.mpr ⟨p, hp, rfl⟩)⟩
        · obtain ⟨o2, h3, h4⟩ := compEnds_t h2 m
          exact ⟨o2, h3, fun p hp => List.mem_append_right _ (h4 p hp)⟩
  | (false, τ) :: r, es, σ, e, m => by
    unfold compEnds at e
    cases h2 : compEnds elt r with
    | none => rw [h2] at e; cases e
    | some x =>
      rw [h2] at e
      cases e
      rcases List.mem_cons.mp m with e | m
      · cases e
      · obtain ⟨o2, h3, h4⟩ := compEnds_t h2 m
        exact ⟨o2, h3, fun p hp => List.mem_cons_of_mem _ (h4 p hp)⟩
theorem compEnds_f {elt : W A} : ∀ {l : List (Bool × AE)} {es : List (Option A × AE)} {σ : AE}, compEnds elt l = some es → (false, σ) ∈ l → (none, σ) ∈ es
  | [], _, _, _, m => by cases m
  | (true, τ) :: r, es, σ, e, m => by
    unfold compEnds at e
    cases h1 : elt τ with
    | none => rw [h1] at e; cases e
    | some os =>
      cases h2 : compEnds elt r with
      | none => rw [h1, h2] at e; cases e
      | some x =>
        rw [h1, h2] at e
        cases e
        rcases List.mem_cons.mp m with e | m
        · cases e
        · exact List.mem_append_right _ (compEnds_f h2 m)
  | (false, τ) :: r, es, σ, e, m => by
    unfold compEnds at e
    cases h2 : compEnds elt r with
    | none => rw [h2] at e; cases e
    | some x =>
      rw [h2] at e
      cases e
      rcases List.mem_cons.mp m with e | m
      · cases e
        exact List.mem_cons_self ..
      · exact List.mem_cons_of_mem _ (compEnds_f h2 m)
theorem resJ_ok {O : Opq} (HO : OpqOk O ρ) : ∀ {es : List (Option A × AE)} {a : A} {σ : AE} {x : PyData}, (some a, σ) ∈ es → a.g ρ x → (resJ O es).g ρ x
  | [], _, _, _, m, _ => by cases m
  | (some b, τ) :: r, a, σ, x, m, g => by
    unfold resJ
    rcases List.mem_cons.mp m with e | m
    · cases e
      exact (join_ok HO FU).1 _ _ x (.inl g)
    · exact (join_ok HO FU).1 _ _ x (.inr (resJ_ok HO m g))
  | (none, τ) :: r, a, σ, x, m, g => by
    unfold resJ
    rcases List.mem_cons.mp m with e | m
    · cases e
    · exact resJ_ok HO m g
def gdR : Option Nat → List (Nat × List PyData) → AS → Prop
  | none, gs, _ => gs = []
  | some i, gs, s => ∃ b ys, gs = [(i, ys)] ∧ sl s i = some (.own b ys)
theorem chk_one {i : Nat} {b : Bool} {ys : List PyData} {s : AS} (h : sl s i = some (.own b ys)) : chk [(i, ys)] s = true := by
  simp [chk, h]
def thU (th : Nat → List PyData) : List (Nat × List PyData) → Nat → List PyData
  | [(i, ys)] => fun j => if j = i then ys else th j
  | _ => th
theorem S_comp {O : Opq} (HO : OpqOk O ρ) {T : Int} {c : Ctx} (hc : c.t0 + KMI ≤ T) {p : A × Option Nat} {src : Src} {own : List Nat} {g : G} {tests : W Bool} {elt : W A} {tM : M Bool} {eM : M PyData}
    (ht : ∀ c', c'.t0 + KMI ≤ T → Snd ρ c' (fun a b => a = b) tests tM) (he : ∀ c', c'.t0 + KMI ≤ T → Snd ρ c' (A.g ρ) elt eM) {σ : AE} {s : AS} {outs : List (AA × AE)} (hr : rel ρ c σ s) (hs : p.1.gl ρ src.1) (hg : gdR p.2 src.2 s) (e : compW O p own g tests elt σ = some outs) :
    ∃ v s', compM src own g tM eM s = .ok v s' ∧ ∃ a σ', (a, σ') ∈ outs ∧ a.r ρ v ∧ rel ρ c σ' s' := by
  unfold compW at e
  split at e
  · cases e
  · rename_i h1
    split at e
    · cases e
    · rename_i h2
      split at e
      · cases e
      · rename_i lo hi hlen
        have hlen2 := len_ok hlen hs
        have nown : ∀ v ∈ own, ownish (sa σ v) = false := fun v m => by
          cases h : ownish (sa σ v) with
          | false => rfl
          | true => exact absurd (List.any_eq_true.mpr ⟨v, m, h⟩) h1
        have gown : ∀ q ∈ src.2, own.contains q.1 = false := by
          intro q m
          cases hp : p.2 with
          | none => rw [hp] at hg; have : src.2 = [] := hg; rw [this] at m; cases m
          | some i =>
            rw [hp] at hg h2
            obtain ⟨b, ys, e2, _⟩ := hg
            rw [e2] at m
            cases List.mem_singleton.mp m
            simpa [gdIn] using h2
        have hcond : ((own.any fun v => isOwn (sl s v)) || (src.2.any fun q => own.contains q.1)) = false := by
          rw [Bool.or_eq_false_iff]
          refine ⟨?_, ?_⟩
          · rw [List.any_eq_false]
            intro v m
            have hv := nown v m
            have hs := hr.at_ v
            cases hq : sa σ v with
            | no => rw [hq] at hs; have : sl s v = none := hs; rw [this]; simp [isOwn]
            | val a => rw [hq] at hs; obtain ⟨d, e3, _⟩ := hs; rw [e3]; simp [isOwn]
            | _ => rw [hq] at hv; cases hv
          · rw [List.any_eq_false]
            intro q m
            rw [gown q m]
            simp
        have mcomp : ∀ {xs s1}, compL src.2 own g tM eM src.1 (wipeA s own) = .ok xs s1 → xs.length ≤ 1000000 → compM src own g tM eM s = .ok (.new xs) (backA s s1 own) := by
          intro xs s1 h hl
          unfold compM
          rw [hcond, h]
          have : fits xs.length = true := fits_of hl
          simp [this]
        split at e
        · rename_i h0
          cases e
          have hnil : src.1 = [] := List.eq_nil_of_length_eq_zero (by omega)
          have hchk : chk src.2 (wipeA s own) = true := by
            cases hp : p.2 with
            | none => rw [hp] at hg; have : src.2 = [] := hg; rw [this]; rfl
            | some i =>
              rw [hp] at hg
              obtain ⟨b, ys, e2, e3⟩ := hg
              have := gown (i, ys) (by rw [e2]; exact List.mem_singleton.mpr rfl)
              rw [e2]
              refine chk_one (b := b) ?_
              rw [sl_wipe, if_neg]
              · exact e3
              · intro hh
                rw [List.contains_iff_mem.mpr hh.1] at this
                cases this
          have hL : compL src.2 own g tM eM src.1 (wipeA s own) = .ok [] (wipeA s own) := by
            rw [hnil]
            unfold compL
            rw [if_pos hchk]
          refine ⟨_, _, mcomp hL (by simp), _, _, List.mem_singleton.mpr rfl, rfl, ?_⟩
          refine ⟨by rw [len_backA, len_wipeA]; exact hr.len, fun i => ?_⟩
          rw [sl_back, len_wipeA]
          split
          · exact hr.at_ i
          · rename_i hh
            rw [sl_wipe, if_neg hh]
            exact hr.at_ i
        · split at e
          · cases e
          · rename_i h0 hmax
            simp only [fc_eq] at e
            split at e
            · cases e
            · rename_i σ2 hσ2
              split at e
              · cases e
              · rename_i σ3 hb
                split at e
                · cases e
                · rename_i os hts
                  split at e
                  · cases e
                  · rename_i es hes
                    generalize hδ : maxK (es.map (·.2)) - (jarK σ + hi * DD1) = δ at e
                    split at e
                    · rename_i hfin
                      rw [Bool.and_eq_true, decide_eq_true_eq, List.all_eq_true] at hfin
                      obtain ⟨hδ1, hall⟩ := hfin
                      cases e
                      -- facts of the start's state
                      have f2 : σ2.length = σ.length ∧ (∀ v ∈ own, v < σ.length → sa σ2 v = .no) ∧ (∀ i, ¬ (i ∈ own ∧ i < σ.length) → (sa σ2 i = setJ1 (jarK σ + hi * DD1) (sa σ i) ∧ p.2 ≠ some i) ∨ (p.2 = some i ∧ ∃ b l, sa σ2 i = .ref b l ∧ (sa σ i = .own b l ∨ sa σ i = .ref b l))) := by
                        cases hp : p.2 with
                        | none =>
                          rw [hp] at hσ2
                          cases hσ2
                          refine ⟨by rw [len_wipeS, len_setJar], fun v m hv => ?_, fun i hi => .inl ⟨?_, by simp⟩⟩
                          · rw [sa_wipe, len_setJar, if_pos ⟨m, hv⟩]
                          · rw [sa_wipe, len_setJar, if_neg hi, sa_map]
                        | some i =>
                          rw [hp] at hσ2 h2
                          have hio : i ∉ own := by simpa [gdIn] using h2
                          unfold gdRef refS at hσ2
                          dsimp only at hσ2
                          rw [sa_wipe, if_neg (fun hh => hio hh.1), sa_map] at hσ2
                          split at hσ2
                          · rename_i b l hq
                            have hq' : sa σ i = .own b l := by
                              cases hx : sa σ i <;> rw [hx] at hq <;> simp [setJ1] at hq <;> simp [hq]
                            have hlt : i < σ.length := by
                              rcases Nat.lt_or_ge i σ.length with h | h
                              · exact h
                              · unfold sa at hq'
                                rw [List.getElem?_eq_none h] at hq'
                                cases hq'
                            cases hσ2
                            refine ⟨by rw [List.length_set, len_wipeS, len_setJar], fun v m hv => ?_, fun j hj => ?_⟩
                            · rw [sa_ne (by rintro rfl; exact hio m), sa_wipe, len_setJar, if_pos ⟨m, hv⟩]
                            · by_cases hij : i = j
                              · subst hij
                                exact .inr ⟨rfl, b, l, by rw [sa_set, if_pos ⟨rfl, by rw [len_wipeS, len_setJar]; exact hlt⟩], .inl hq'⟩
                              · exact .inl ⟨by rw [sa_ne hij, sa_wipe, len_setJar, if_neg hj, sa_map], by simpa using hij⟩
                          · rename_i b l hq
                            have hq' : sa σ i = .ref b l := by
                              cases hx : sa σ i <;> rw [hx] at hq <;> simp [setJ1] at hq <;> simp [hq]
                            cases hσ2
                            refine ⟨by rw [len_wipeS, len_setJar], fun v m hv => ?_, fun j hj => ?_⟩
                            · rw [sa_wipe, len_setJar, if_pos ⟨m, hv⟩]
                            · by_cases hij : i = j
                              · subst hij
                                refine .inr ⟨rfl, b, l, ?_, .inr hq'⟩
                                rw [sa_wipe, len_setJar, if_neg hj, sa_map, hq']
                                rfl
                              · exact .inl ⟨by rw [sa_wipe, len_setJar, if_neg hj, sa_map], by simpa using hij⟩
                          · cases hσ2
                      obtain ⟨fl, fno, fot⟩ := f2
                      let cj : Nat → Ctx := fun j => ⟨c.t0 + (jarK σ : Nat) + (j * δ : Nat) - ((jarK σ + hi * DD1 : Nat) : Int), thU c.th src.2⟩
                      have hcj : ∀ j, j ≤ hi → (cj j).t0 ≤ c.t0 := by
                        intro j hj
                        have : j * δ ≤ hi * DD1 := Nat.mul_le_mul hj hδ1
                        show c.t0 + (jarK σ : Nat) + (j * δ : Nat) - ((jarK σ + hi * DD1 : Nat) : Int) ≤ c.t0
                        omega
                      have thg : ∀ i, p.2 = some i → ∃ b, sl s i = some (.own b ((cj 0).th i)) := by
                        intro i hp
                        rw [hp] at hg
                        obtain ⟨b, ys, e2, e3⟩ := hg
                        refine ⟨b, ?_⟩
                        show _ = some (SV.own b (thU c.th src.2 i))
                        rw [e2]
                        simpa [thU] using e3
                      have tho : ∀ i, p.2 ≠ some i → thU c.th src.2 i = c.th i := by
                        intro i hp
                        cases hq : p.2 with
                        | none => rw [hq] at hg; have : src.2 = [] := hg; rw [this]; rfl
                        | some k =>
                          rw [hq] at hg
                          obtain ⟨b, ys, e2, e3⟩ := hg
                          rw [e2]
                          have : i ≠ k := by rintro rfl; exact hp hq
                          simp [thU, this]
                      have r0 : rel ρ (cj 0) σ2 (wipeA s own) := by
                        refine ⟨by rw [len_wipeA, fl]; exact hr.len, fun i => ?_⟩
                        rw [sl_wipe, hr.len]
                        split
                        · rename_i hh
                          rw [fno i hh.1 hh.2]
                          rfl
                        · rename_i hh
                          have hi' := hr.at_ i
                          rcases fot i hh with ⟨e2, e3⟩ | ⟨e2, b, l, e3, e4⟩
                          · rw [e2]
                            cases hx : sa σ i with
                            | no => rw [hx] at hi'; exact hi'
                            | top => trivial
                            | val a => rw [hx] at hi'; exact hi'
                            | own b l => rw [hx] at hi'; exact hi'
                            | jar b k =>
                              rw [hx] at hi'
                              obtain ⟨xs, e5, g5⟩ := hi'
                              have := jarK_le hx
                              refine ⟨xs, e5, g5.mono ?_⟩
                              show c.t0 + (k : Nat) ≤ c.t0 + (jarK σ : Nat) + (0 * δ : Nat) - ((jarK σ + hi * DD1 : Nat) : Int) + ((jarK σ + hi * DD1 : Nat) : Int)
                              rw [Nat.zero_mul]
                              omega
                            | ref b l =>
                              rw [hx] at hi'
                              show slR ρ (cj 0) i (.ref b l) _
                              have : (cj 0).th i = c.th i := tho i e3
                              unfold slR
                              rw [this]
                              exact hi'
                          · rw [e3]
                            obtain ⟨b2, e5⟩ := thg i e2
                            rcases e4 with e4 | e4
                            · rw [e4] at hi'
                              obtain ⟨xs, e6, g6⟩ := hi'
                              rw [e6] at e5
                              cases e5
                              exact ⟨e6, g6⟩
                            · rw [e4] at hi'
                              obtain ⟨e6, g6⟩ := hi'
                              rw [e6] at e5
                              have e7 : c.th i = (cj 0).th i := by
                                injection e5 with e5
                                injection e5
                              unfold slR
                              rw [← e7]
                              exact ⟨e6, g6⟩
                      have hchk : ∀ j u, rel ρ (cj j) σ2 u → chk src.2 u = true := by
                        intro j u hu
                        cases hp : p.2 with
                        | none => rw [hp] at hg; have : src.2 = [] := hg; rw [this]; rfl
                        | some i =>
                          have hio : ¬ (i ∈ own ∧ i < σ.length) := by
                            rw [hp] at h2
                            intro hh
                            exact h2 (by simpa [gdIn] using hh.1)
                          have hg' := hg
                          rw [hp] at hg'
                          obtain ⟨b0, ys, e2, e3⟩ := hg'
                          rcases fot i hio with ⟨_, e4⟩ | ⟨_, b, l, e4, _⟩
                          · exact absurd hp e4
                          · have := hu.at_ i
                            rw [e4] at this
                            rw [e2]
                            have e5 : (cj j).th i = ys := by
                              show thU c.th src.2 i = ys
                              rw [e2]
                              simp [thU]
                            rw [← e5]
                            exact chk_one this.1
                      have loop : ∀ (ds : List PyData) (j : Nat) (u : AS), (∀ d ∈ ds, (A.allJ O FU p.1).g ρ d) → j + ds.length ≤ hi → rel ρ (cj j) σ2 u →
                          ∃ xs u', compL src.2 own g tM eM ds u = .ok xs u' ∧ xs.length ≤ ds.length ∧ ((es.any fun e => e.1.isNone) = false → xs.length = ds.length) ∧ (∀ x ∈ xs, (resJ O es).g ρ x) ∧ rel ρ (cj (j + ds.length)) σ2 u' := by
                        intro ds
                        induction ds with
                        | nil =>
                          intro j u _ _ hu
                          exact ⟨[], u, by unfold compL; rw [if_pos (hchk j u hu)], Nat.le_refl _, fun _ => rfl, by simp, hu⟩
                        | cons d ds ih =>
                          intro j u hds hj hu
                          simp only [List.length_cons] at hj
                          obtain ⟨u1, b1, hu1⟩ := (bindGA_ok HO g).1 hb (hds d (List.mem_cons_self ..)) (rel_wipe1 (own := own) hu (by rw [fl]; exact fno))
                          have hj' : (cj j).t0 + KMI ≤ T := Int.le_trans (Int.add_le_add_right (hcj j (by omega)) _) hc
                          obtain ⟨k, u2, e2, k', σ4, m2, rfl, hu2⟩ := ht (cj j) hj' σ3 u1 os hu1 hts
                          have next : ∀ {x σ6 u3}, (x, σ6) ∈ es → rel ρ (cj j) σ6 u3 → rel ρ (cj (j + 1)) σ2 (wipeA u3 own) := by
                            intro x σ6 u3 m h
                            refine leSt_ok HO (c := cj j) (hall (x, σ6) m) ?_ rfl (rel_wipe own h)
                            show c.t0 + (jarK σ : Nat) + (j * δ : Nat) - ((jarK σ + hi * DD1 : Nat) : Int) + (δ : Nat) ≤ c.t0 + (jarK σ : Nat) + ((j + 1) * δ : Nat) - ((jarK σ + hi * DD1 : Nat) : Int)
                            have : (j + 1) * δ = j * δ + δ := by rw [Nat.add_mul, Nat.one_mul]
                            rw [this]
                            omega
                          have hlen3 : j + (d :: ds).length = j + 1 + ds.length := by simp only [List.length_cons]; omega
                          rw [hlen3]
                          cases k' with
                          | true =>
                            obtain ⟨es', h3, hsub⟩ := compEnds_t hes m2
                            obtain ⟨x, u3, e3, a, σ6, m3, ga, hu3⟩ := he (cj j) hj' σ4 u2 es' hu2 h3
                            obtain ⟨xs, u', h4, h5, h6, h7, h8⟩ := ih (j + 1) _ (fun d m => hds d (List.mem_cons_of_mem _ m)) (by omega) (next (hsub _ m3) hu3)
                            refine ⟨x :: xs, u', ?_, by simp; omega, fun hn => by simp [h6 hn], ?_, h8⟩
                            · unfold compL
                              rw [if_pos (hchk j u hu), b1]
                              dsimp only
                              rw [e2]
                              dsimp only
                              rw [e3]
                              show (compL src.2 own g tM eM ds (wipeA u3 own)).bd _ = _
                              rw [h4]
                              rfl
                            · intro y hy
                              rcases List.mem_cons.mp hy with rfl | hy
                              · exact resJ_ok HO (hsub _ m3) ga
                              · exact h7 y hy
                          | false =>
                            have m3 := compEnds_f hes m2
                            obtain ⟨xs, u', h4, h5, h6, h7, h8⟩ := ih (j + 1) _ (fun d m => hds d (List.mem_cons_of_mem _ m)) (by omega) (next m3 hu2)
                            refine ⟨xs, u', ?_, by simp; omega, fun hn => ?_, h7, h8⟩
                            · unfold compL
                              rw [if_pos (hchk j u hu), b1]
                              dsimp only
                              rw [e2]
                              dsimp only
                              exact h4
                            · exfalso
                              have : (es.any fun e => e.1.isNone) = true := List.any_eq_true.mpr ⟨_, m3, rfl⟩
                              rw [this] at hn
                              cases hn
                      obtain ⟨xs, s1, h4, h5, h6, h7, h8⟩ := loop src.1 0 _ (fun d m => allJ_ok HO hs m) (by omega) r0
                      rw [Nat.zero_add] at h8
                      refine ⟨_, _, mcomp h4 (by omega), _, _, List.mem_singleton.mpr rfl, ⟨?_, by omega, h7⟩, ?_⟩
                      · split
                        · exact Nat.zero_le _
                        · rename_i hn
                          rw [h6 (eq_false_of_ne_true hn)]
                          omega
                      · refine ⟨by rw [len_backA, len_setJar, h8.len, fl], fun i => ?_⟩
                        rw [sl_back, sa_map, h8.len, fl]
                        split
                        · rename_i hh
                          have hv := nown i hh.1
                          have hi' := hr.at_ i
                          cases hx : sa σ i with
                          | no => rw [hx] at hi'; exact hi'
                          | val a => rw [hx] at hi'; exact hi'
                          | _ => rw [hx] at hv; cases hv
                        · rename_i hh
                          have hi' := h8.at_ i
                          rcases fot i hh with ⟨e2, e3⟩ | ⟨e2, b, l, e3, e4⟩
                          · rw [e2] at hi'
                            cases hx : sa σ i with
                            | no => rw [hx] at hi'; exact hi'
                            | top => trivial
                            | val a => rw [hx] at hi'; exact hi'
                            | own b l => rw [hx] at hi'; exact hi'
                            | jar b k =>
                              rw [hx] at hi'
                              obtain ⟨ys, e5, g5⟩ := hi'
                              refine ⟨ys, e5, g5.mono ?_⟩
                              have : src.1.length * δ ≤ hi * δ := Nat.mul_le_mul_right _ (by omega)
                              show c.t0 + (jarK σ : Nat) + (src.1.length * δ : Nat) - ((jarK σ + hi * DD1 : Nat) : Int) + ((jarK σ + hi * DD1 : Nat) : Int) ≤ c.t0 + ((jarK σ + hi * δ : Nat) : Int)
                              omega
                            | ref b l =>
                              rw [hx] at hi'
                              have hi' : slR ρ (cj src.1.length) i (.ref b l) _ := hi'
                              have e6 : (cj src.1.length).th i = c.th i := tho i e3
                              unfold slR at hi'
                              rw [e6] at hi'
                              exact hi'
                          · rw [e3] at hi'
                            obtain ⟨e5, g5⟩ := hi'
                            rcases e4 with e4 | e4
                            · rw [e4]
                              exact ⟨_, e5, g5⟩
                            · rw [e4]
                              have hz := hr.at_ i
                              rw [e4] at hz
                              obtain ⟨b2, e6⟩ := thg i e2
                              obtain ⟨z1, z2⟩ := hz
                              rw [z1] at e6
                              have e7 : c.th i = (cj src.1.length).th i := by
                                injection e6 with e6
                                injection e6
                              show slR ρ c i (.ref b l) _
                              unfold slR
                              rw [e7]
                              exact ⟨e5, g5⟩
                    · cases e
end
end AM.AI
set_option Elab.async false
set_option linter.all false
set_option maxRecDepth 100000
set_option maxHeartbeats 4000000
/-! AI9: the evaluator of shapes: terms. -/
namespace AM.AI
open PySem
mutual
def ofD : PyData → A
  | .none => .non
  | .bool b => .bool b (!b)
  | .int i => .int i i
  | .str x => if (PyData.str x).canLay0 then .str else .top
  | .list xs => .lst (ofDs xs)
  | .tuple xs => .tup (ofDs xs)
  | .dict _ => .top
def ofDs : List PyData → A
  | [] => .nil
  | x :: xs => .cons (ofD x) (ofDs xs)
end
def ofL : List A → A
  | [] => .nil
  | a :: r => .cons a (ofL r)
/-- what may be, alone -/
def A.keep (f : A → Bool) : A → A
  | .or a b => match A.keep f a, A.keep f b with
    | .bot, y => y
    | x, .bot => x
    | x, y => .or x y
  | a => if f a then a else .bot
def hasB (p : BB) (b : Bool) : Bool := if b then p.1 else p.2
def rfI (o : COp) (k : Bool) (l h n : Int) : Int × Int := match o, k with
  | .eq, true => (max l n, min h n)
  | .ne, false => (max l n, min h n)
  | .eq, false => if l = n then (l + 1, h) else if h = n then (l, h - 1) else (l, h)
  | .ne, true => if l = n then (l + 1, h) else if h = n then (l, h - 1) else (l, h)
  | .lt, true => (l, min h (n - 1))
  | .ge, false => (l, min h (n - 1))
  | .lt, false => (max l n, h)
  | .ge, true => (max l n, h)
  | .le, true => (l, min h n)
  | .gt, false => (l, min h n)
  | .le, false => (max l (n + 1), h)
  | .gt, true => (max l (n + 1), h)
def notB : A → SL → AE → Nat → Option AE
  | .bot, _, _, _ => none
  | _, v, σ, i => some (σ.set i v)
/-- empty or not -/
def A.emp (e : Bool) : A → Option A
  | .nil => if e then some .nil else none
  | .cons a l => if e then none else some (.cons a l)
  | .rep a lo hi => if e then (if lo = 0 then some .nil else none) else (if hi = 0 then none else some (.rep a (max 1 lo) hi))
  | l => some l
def fCmp (O : Opq) (o : COp) (k : Bool) (n : Int) (a : A) : Bool := match A.cmp O o a (.int n n) with
  | some p => hasB p k
  | none => true
def fIsn (O : Opq) (kk k : Bool) (a : A) : Bool := match A.isn O a with
  | some p => hasB p (kk == k)
  | none => true
def fInst (O : Opq) (t : Ty) (k : Bool) (a : A) : Bool := match A.inst O t a with
  | some p => hasB p k
  | none => true
def rfInt (O : Opq) (o : COp) (k : Bool) (n : Int) (i : Nat) (σ : AE) : Option AE := match sa σ i with
  | .val a => (match a.keep (fCmp O o k n) with
    | .bot => none
    | a => (match a.ints with
      | some (l, h) => if (rfI o k l h n).1 ≤ (rfI o k l h n).2 then some (σ.set i (.val (.int (rfI o k l h n).1 (rfI o k l h n).2))) else none
      | none => some (σ.set i (.val a))))
  | _ => some σ
def rfEmp (o : COp) (k : Bool) (i : Nat) (tup : Bool) (σ : AE) : Option AE := match o with
  | .eq => (match sa σ i with
    | .val (.lst l) => if tup then some σ else (match A.emp k l with
      | some m => some (σ.set i (.val (.lst m)))
      | none => none)
    | .val (.tup l) => if tup then (match A.emp k l with
      | some m => some (σ.set i (.val (.tup m)))
      | none => none) else some σ
    | .own b l => if tup then some σ else (match A.emp k l with
      | some m => some (σ.set i (.own b m))
      | none => none)
    | _ => some σ)
  | .ne => (match sa σ i with
    | .val (.lst l) => if tup then some σ else (match A.emp (!k) l with
      | some m => some (σ.set i (.val (.lst m)))
      | none => none)
    | .val (.tup l) => if tup then (match A.emp (!k) l with
      | some m => some (σ.set i (.val (.tup m)))
      | none => none) else some σ
    | .own b l => if tup then some σ else (match A.emp (!k) l with
      | some m => some (σ.set i (.own b m))
      | none => none)
    | _ => some σ)
  | _ => some σ
def rfKeep (f : A → Bool) (i : Nat) (σ : AE) : Option AE := match sa σ i with
  | .val a => (match a.keep f with
    | .bot => none
    | a => some (σ.set i (.val a)))
  | _ => some σ
def refine (O : Opq) : E → Bool → AE → Option AE
  | .cmp o (.var i) (.lit (.int n)), k, σ => rfInt O o k n i σ
  | .cmp o (.var i) (.lst .nil), k, σ => rfEmp o k i false σ
  | .cmp o (.var i) (.lit (.tuple [])), k, σ => rfEmp o k i true σ
  | .cmp o (.var i) (.tup .nil), k, σ => rfEmp o k i true σ
  | .isN kk (.var i), k, σ => rfKeep (fIsn O kk k) i σ
  | .inst (.var i) t, k, σ => rfKeep (fInst O t k) i σ
  | _, _, σ => some σ
def rfW (O : Opq) (t : E) (w : W Bool) : W Bool := fun σ => match w σ with
  | none => none
  | some outs => fc (outs.filterMap fun p => (refine O t p.1 p.2).map fun σ' => (p.1, σ')) some
def binW (O : Opq) (o : BOp) (a b : W AA) : W AA := wb (opnW a) fun x => wb (opnW b) fun y => wb (rdW x) fun d => wb (rdW y) fun e => wlift (A.bin O o d e)
def cmpW (O : Opq) (o : COp) (a b : W AA) : W BB := wb (opnW a) fun x => wb (opnW b) fun y => wb (rdW x) fun d => wb (rdW y) fun e => wlift (A.cmp O o d e)
def chnW (O : Opq) (o o' : COp) (a b c : W AA) : W BB := wb (opnW a) fun x => wb (opnW b) fun y => wb (rdW x) fun d => wb (rdW y) fun e => wb (wlift (A.cmp O o d e)) fun p =>
  wif p (wb (opnW c) fun z => wb (rdW y) fun e' => wb (rdW z) fun h => wlift (A.cmp O o' e' h)) (wret (false, true))
def itW (fr : Bool) (m : W AA) : W AA := if fr then wb (vlW m) fun d => wret (.val d) else opnW m
def A.seqV (O : Opq) (a : A) : Option A := match a.seqT O with
  | some l => some l
  | none => a.seqL O
def srcW (O : Opq) (a : AA) : W (A × Option Nat) := match a with
  | .val d => wlift ((d.seqV O).map fun l => (l, none))
  | .bor i => fun σ => (match sa σ i with
    | .own _ l => some [((l, some i), σ)]
    | .ref _ l => some [((l, some i), σ)]
    | _ => none)
  | .new _ => wfail
def enumA (O : Opq) (p : A × Option Nat) : Option (A × Option Nat) := match A.len p.1 with
  | some (m, n) => some (.rep (.tup (.cons (.int 0 ((n : Int) - 1)) (.cons (A.allJ O FU p.1) .nil))) m n, p.2)
  | none => none
def zipA (O : Opq) (x y : AA) : Option (A × Option Nat) := match x, y with
  | .val d, .val e => (match d.seqT O, e.seqT O with
    | some l, some m => (match A.len l, A.len m with
      | some (a, b), some (a', b') => some (.rep (.tup (.cons (A.allJ O FU l) (.cons (A.allJ O FU m) .nil))) (min a a') (min b b'), none)
      | _, _ => none)
    | _, _ => (match d.seqL O, e.seqL O with
      | some l, some m => (match A.len l, A.len m with
        | some (a, b), some (a', b') => some (.rep (.tup (.cons (A.allJ O FU l) (.cons (A.allJ O FU m) .nil))) (min a a') (min b b'), none)
        | _, _ => none)
      | _, _ => none))
  | _, _ => none
def rngA (d e : A) : Option (A × Option Nat) := match d.ints, e.ints with
  | some (l, h), some (l', h') => if decide (-(2 ^ 62) ≤ l) && decide (h < 2 ^ 62) && decide (-(2 ^ 62) ≤ l') && decide (h' < 2 ^ 62) then some (.rep (.int l (h' - 1)) (l' - h).toNat (h' - l).toNat, none) else none
  | _, _ => none
structure Res where
  ev : W AA
  part : W (Option (Int × Int))
  evs : W (List AA)
  evAn : W AA
  evOr : W AA
  tst : W Bool
  tstAn : W Bool
  tstOr : W Bool
  tsts : W Bool
  it : Bool → W (A × Option Nat)
/-- the usual ways of a term -/
def mkR (C : Cfg) (e : E) (ev : W AA) : Res where
  ev := ev
  part := wb (vlW ev) fun d => wlift (match d.ints with
    | some p => some (some p)
    | none => none)
  evs := wfail
  evAn := wfail
  evOr := wfail
  tst := rfW C.O e (wb (wb (opnW ev) (trW C.O)) wfork)
  tstAn := wfail
  tstOr := wfail
  tsts := wfail
  it := fun fr => wb (itW fr ev) (srcW C.O)
def failR : Res := ⟨wfail, wfail, wfail, wfail, wfail, wfail, wfail, wfail, wfail, fun _ => wfail⟩
def tailK {α : Type} (r : E) (x y : α) (z : α) : α := match r with
  | .nil => x
  | .cons _ _ => y
  | _ => z
def resA (C : Cfg) : E → Res
  | .var i => mkR C (.var i) fun σ => (match sa σ i with
    | .val a => some [(.val a, σ)]
    | .own _ _ => some [(.bor i, σ)]
    | .ref _ _ => some [(.bor i, σ)]
    | .jar _ _ => some [(.bor i, σ)]
    | _ => none)
  | .lit d => mkR C (.lit d) (wret (.val (ofD d)))
  | .glb x d => mkR C (.glb x d) (wret (.val (ofD d)))
  | .neg a => mkR C (.neg a) (wb (opnW (resA C a).ev) fun x => wb (rdW x) fun d => wlift (match d.ints with
    | some (l, h) => some (.val (.int (-h) (-l)))
    | none => none))
  | .nt a => { mkR C (.nt a) (wb (wb (opnW (resA C a).ev) (trW C.O)) fun p => wret (.val (.bool p.2 p.1))) with tst := wb (resA C a).tst fun b => wret !b }
  | .an l => { mkR C (.an l) (resA C l).evAn with tst := (resA C l).tstAn }
  | .orr l => { mkR C (.orr l) (resA C l).evOr with tst := (resA C l).tstOr }
  | .ite t a b => { mkR C (.ite t a b) (wb (resA C t).tst fun k => if k then (resA C a).ev else (resA C b).ev) with tst := wb (resA C t).tst fun k => if k then (resA C a).tst else (resA C b).tst }
  | .bin o a b => mkR C (.bin o a b) (binW C.O o (resA C a).ev (resA C b).ev)
  | .cmp o a b => { mkR C (.cmp o a b) (wb (cmpW C.O o (resA C a).ev (resA C b).ev) fun p => wret (.val (.bool p.1 p.2))) with tst := rfW C.O (.cmp o a b) (wb (cmpW C.O o (resA C a).ev (resA C b).ev) wfork) }
  | .chn o o' a b c => { mkR C (.chn o o' a b c) (wb (chnW C.O o o' (resA C a).ev (resA C b).ev (resA C c).ev) fun p => wret (.val (.bool p.1 p.2))) with tst := wb (chnW C.O o o' (resA C a).ev (resA C b).ev (resA C c).ev) wfork }
  | .isN k a => mkR C (.isN k a) (wb (opnW (resA C a).ev) fun x => wb (rdW x) fun d => wlift (match d.isn C.O with
    | some p => some (.val (if k then .bool p.1 p.2 else .bool p.2 p.1))
    | none => none))
  | .nil => { failR with evs := wret [], tsts := wret true }
  | .cons a r => { failR with
      evs := wb (opnW (resA C a).ev) fun x => wb (resA C r).evs fun xs => wret (x :: xs)
      evAn := tailK r (resA C a).ev (wb (opnW (resA C a).ev) fun x => wb (trW C.O x) fun p => wif p (resA C r).evAn (wret x)) wfail
      evOr := tailK r (resA C a).ev (wb (opnW (resA C a).ev) fun x => wb (trW C.O x) fun p => wif p (wret x) (resA C r).evOr) wfail
      tstAn := tailK r (resA C a).tst (wb (resA C a).tst fun k => if k then (resA C r).tstAn else wret false) wfail
      tstOr := tailK r (resA C a).tst (wb (resA C a).tst fun k => if k then wret true else (resA C r).tstOr) wfail
      tsts := tailK r (resA C a).tst wfail wfail }
  | .tup l => mkR C (.tup l) (wb (wb (resA C l).evs fzsW) fun ds => if ds.length ≤ 1000000 then wret (.val (.tup (ofL ds))) else wfail)
  | .lst l => mkR C (.lst l) (wb (wb (resA C l).evs fzsW) fun ds => if ds.length ≤ 1000000 then wret (.new (ofL ds)) else wfail)
  | .ix a i => mkR C (.ix a i) (wb (opnW (resA C a).ev) fun x => wb (vlW (resA C i).ev) fun j => wb (rdW x) fun d => wlift (match A.ix C.O d j with
    | some y => some (.val y)
    | none => none))
  | .slc a lo hi => mkR C (.slc a lo hi) (wb (opnW (resA C a).ev) fun x => wb (resA C lo).part fun l => wb (resA C hi).part fun h => wb (rdW x) fun d => wlift (A.slc C.O d l h))
  | .rev a => mkR C (.rev a) (wb (opnW (resA C a).ev) fun x => wb (rdW x) fun d => wlift (A.rv C.O d))
  | .nop => { failR with part := wret none }
  | .call f l => mkR C (.call f l) (wb (resA C l).evs (callW C f))
  | .blt b l => mkR C (.blt b l) (wb (wb (resA C l).evs rdsW) fun ds => wlift (A.blt C.O b ds))
  | .inst a t => mkR C (.inst a t) (wb (opnW (resA C a).ev) fun x => wb (rdW x) fun d => wlift (match d.inst C.O t with
    | some p => some (.val (.bool p.1 p.2))
    | none => none))
  | .excIs i c => mkR C (.excIs i c) wfail
  | .what i => mkR C (.what i) wfail
  | .meth m a l => mkR C (.meth m a l) (wb (opnW (resA C a).ev) fun x => wb (mOkW m x) fun _ => wb (resA C l).evs (methW C.O m x))
  | .comp elt g it tests own => mkR C (.comp elt g it tests own) (wb ((resA C it).it false) fun src => compW C.O src own g (resA C tests).tsts (vlW (resA C elt).ev))
  | .told f b => mkR C (.told f b) wfail
  | .range1 a => { failR with it := fun _ => wb (vlW (resA C a).ev) fun d => wlift (rngA (.int 0 0) d) }
  | .range2 a b => { failR with it := fun _ => wb (vlW (resA C a).ev) fun d => wb (vlW (resA C b).ev) fun e => wlift (rngA d e) }
  | .enum a => { failR with it := fun fr => wb (wb (itW fr (resA C a).ev) (srcW C.O)) fun p => wlift (enumA C.O p) }
  | .zip a b => { failR with it := fun fr => wb (itW fr (resA C a).ev) fun x => wb (itW fr (resA C b).ev) fun y => wlift (zipA C.O x y) }
abbrev evA (C : Cfg) (e : E) : W AA := (resA C e).ev
abbrev partA (C : Cfg) (e : E) : W (Option (Int × Int)) := (resA C e).part
abbrev evsA (C : Cfg) (e : E) : W (List AA) := (resA C e).evs
abbrev evAnA (C : Cfg) (e : E) : W AA := (resA C e).evAn
abbrev evOrA (C : Cfg) (e : E) : W AA := (resA C e).evOr
abbrev tstA (C : Cfg) (e : E) : W Bool := (resA C e).tst
abbrev tstAnA (C : Cfg) (e : E) : W Bool := (resA C e).tstAn
abbrev tstOrA (C : Cfg) (e : E) : W Bool := (resA C e).tstOr
abbrev tstsA (C : Cfg) (e : E) : W Bool := (resA C e).tsts
abbrev evItA (C : Cfg) (fr : Bool) (e : E) : W (A × Option Nat) := (resA C e).it fr
end AM.AI
set_option Elab.async false
set_option linter.all false
set_option maxRecDepth 100000
set_option maxHeartbeats 4000000
/-! AI10: the evaluator of terms is sound. -/
namespace AM.AI
open PySem
section
variable {O : Opq} {ρ : Nat → PyData → Prop}
theorem hasB_ok {p : BB} {k : Bool} (h : p.has k) : hasB p k = true := by cases k <;> exact h
theorem keep_ok {f : A → Bool} {P : PyData → Prop} (hf : ∀ a d, A.g ρ a d → P d → f a = true) : ∀ {a : A} {d : PyData}, a.g ρ d → P d → (a.keep f).g ρ d := by
  intro a
  induction a with
  | or a b iha ihb =>
    intro d g hp
    have key : (A.keep f a).g ρ d ∨ (A.keep f b).g ρ d := by
      rcases g with g | g
      · exact .inl (iha g hp)
      · exact .inr (ihb g hp)
    unfold A.keep
    split
    · rename_i h1
      rw [h1] at key
      rcases key with k | k
      · exact k.elim
      · exact k
    · rename_i h1 _
      rw [h1] at key
      rcases key with k | k
      · exact k
      · exact k.elim
    · exact key
  | _ =>
    intro d g hp
    unfold A.keep
    rw [if_pos (hf _ d g hp)]
    exact g
/-- what a slot is read as -/
def slv (s : AS) (i : Nat) (d : PyData) : Prop := sl s i = some (.val d) ∨ ∃ b xs, sl s i = some (.own b xs) ∧ d = .list xs
theorem tst_vl {Φ : Calls} {o : COp} {i : Nat} {b : E} {x : PyData} {s s' : AS} {k : Bool} (hb : ∀ s, opn (ev Φ b) s = .ok (.val x) s) (h : tst Φ (.cmp o (.var i) b) s = .ok k s') : s' = s ∧ ∃ d, slv s i d ∧ cmpD o d x = some k := by
  have e : tst Φ (.cmp o (.var i) b) s = (opn (ev Φ (.var i)) s).bd fun y s => (opn (ev Φ b) s).bd fun z s => (rd y s).bd fun d s => (rd z s).bd fun e s => lift (cmpD o d e) s := by
    rw [tst_cmp]
    rfl
  rw [e] at h
  cases hs : sl s i with
  | none => simp [hs] at h
  | some v =>
    cases v with
    | exc _ _ => simp [hs] at h
    | val d =>
      simp only [opn_ap, ev_var, hs, bd_ok, nz_val] at h
      have hb' := hb s
      simp only [opn_ap] at hb'
      rw [hb'] at h
      simp only [bd_ok, rd_val] at h
      cases hc : cmpD o d x with
      | none => rw [hc] at h; cases h
      | some q =>
        rw [hc] at h
        cases h
        exact ⟨rfl, d, .inl hs, hc⟩
    | own b' xs =>
      simp only [opn_ap, ev_var, hs, bd_ok, nz_bor] at h
      have hb' := hb s
      simp only [opn_ap] at hb'
      rw [hb'] at h
      simp only [bd_ok, rd_val, rd_bor, hs] at h
      cases hc : cmpD o (.list xs) x with
      | none => rw [hc] at h; cases h
      | some q =>
        rw [hc] at h
        cases h
        exact ⟨rfl, _, .inr ⟨b', xs, hs, rfl⟩, hc⟩
theorem slv_val {c : Ctx} {σ : AE} {s : AS} {i : Nat} {a : A} {d : PyData} (hr : rel ρ c σ s) (h : sa σ i = .val a) (hv : slv s i d) : a.g ρ d ∧ sl s i = some (.val d) := by
  have := hr.at_ i
  rw [h] at this
  obtain ⟨x, e, g⟩ := this
  rcases hv with e2 | ⟨b, xs, e2, _⟩
  · rw [e] at e2
    cases e2
    exact ⟨g, e⟩
  · rw [e] at e2
    cases e2
theorem rel_setv {c : Ctx} {σ : AE} {s : AS} {i : Nat} {v : SL} (h : rel ρ c σ s) (hv : slR ρ c i v (sl s i)) : rel ρ c (σ.set i v) s := by
  refine ⟨by rw [List.length_set]; exact h.len, fun j => ?_⟩
  rw [sa_set]
  split
  · rename_i e
    obtain ⟨rfl, _⟩ := e
    exact hv
  · exact h.at_ j
theorem rfI_ok {o : COp} {k : Bool} {l h n v : Int} (hc : cmpD o (.int v) (.int n) = some k) (h1 : l ≤ v) (h2 : v ≤ h) : (rfI o k l h n).1 ≤ v ∧ v ≤ (rfI o k l h n).2 := by
  cases o <;> cases k <;> simp only [cmp_eq_i, cmp_ne_i, cmp_lt_i, cmp_le_i, cmp_gt_i, cmp_ge_i, Option.some.injEq, decide_eq_true_eq, decide_eq_false_iff_not, beq_iff_eq, beq_eq_false_iff_ne, bne_iff_ne, bne_eq_false_iff_eq, ne_eq] at hc <;> simp only [rfI] <;> (repeat' split) <;> (constructor <;> (try dsimp only) <;> omega)
theorem rfInt_ok (HO : OpqOk O ρ) {Φ : Calls} {c : Ctx} {o : COp} {k : Bool} {n : Int} {i : Nat} {σ : AE} {s : AS} {d : PyData} (hv : slv s i d) (hc : cmpD o d (.int n) = some k) (hr : rel ρ c σ s) : ∃ σ', rfInt O o k n i σ = some σ' ∧ rel ρ c σ' s := by
  unfold rfInt
  split
  · rename_i a ha
    obtain ⟨g, hs⟩ := slv_val hr ha hv
    have g2 := keep_ok (ρ := ρ) (f := fCmp O o k n) (P := fun d => cmpD o d (.int n) = some k) (fun a d ga hd => by
      unfold fCmp
      split
      · rename_i p hp
        obtain ⟨k', h1, h2⟩ := cmp_ok HO hp ga (show A.g ρ (.int n n) (.int n) from ⟨n, rfl, Int.le_refl _, Int.le_refl _⟩)
        rw [hd] at h1
        cases h1
        exact hasB_ok h2
      · rfl) g hc
    split
    · rename_i hb
      rw [hb] at g2
      exact g2.elim
    · rename_i hb
      split
      · rename_i l h hi
        obtain ⟨v, rfl, h1, h2⟩ := ints_ok hi g2
        have h3 := rfI_ok hc h1 h2
        rw [if_pos (by omega)]
        exact ⟨_, rfl, rel_setv hr ⟨_, hs, v, rfl, h3.1, h3.2⟩⟩
      · exact ⟨_, rfl, rel_setv hr ⟨_, hs, g2⟩⟩
  · exact ⟨σ, rfl, hr⟩
theorem emp_ok2 : ∀ {l : A} {xs : List PyData} {e : Bool}, l.gl ρ xs → xs.isEmpty = e → ∃ m, A.emp e l = some m ∧ m.gl ρ xs := by
  intro l xs e g h
  cases l with
  | nil =>
    have : xs = [] := g
    subst this
    cases h
    exact ⟨.nil, rfl, rfl⟩
  | cons a l =>
    obtain ⟨y, ys, rfl, g1, g2⟩ := g
    cases h
    exact ⟨_, rfl, y, ys, rfl, g1, g2⟩
  | rep a lo hi =>
    obtain ⟨g1, g2, g3⟩ := g
    cases xs with
    | nil =>
      cases h
      have : lo = 0 := by simp at g1; omega
      subst this
      exact ⟨.nil, rfl, rfl⟩
    | cons x xs =>
      cases h
      simp only [List.length_cons] at g1 g2
      refine ⟨.rep a (max 1 lo) hi, ?_, by simp only [List.length_cons]; omega, by simp only [List.length_cons]; omega, g3⟩
      simp only [A.emp]
      rw [if_neg (by simp), if_neg (by omega)]
  | _ => first | exact g.elim | exact ⟨_, rfl, g⟩
theorem rfEmp_ok {c : Ctx} {o : COp} {k : Bool} {i : Nat} {t : Bool} {σ : AE} {s : AS} {d : PyData} (hv : slv s i d) (hc : cmpD o d (if t then .tuple [] else .list []) = some k) (hr : rel ρ c σ s) : ∃ σ', rfEmp o k i t σ = some σ' ∧ rel ρ c σ' s := by
  have key : ∀ (e : Bool), (∀ xs, t = false → d = .list xs → xs.isEmpty = e) → (∀ xs, t = true → d = .tuple xs → xs.isEmpty = e) → ∃ σ', (match sa σ i with
    | .val (.lst l) => if t then some σ else (match A.emp e l with
      | some m => some (σ.set i (.val (.lst m)))
      | none => none)
    | .val (.tup l) => if t then (match A.emp e l with
      | some m => some (σ.set i (.val (.tup m)))
      | none => none) else some σ
    | .own b l => if t then some σ else (match A.emp e l with
      | some m => some (σ.set i (.own b m))
      | none => none)
    | _ => some σ) = some σ' ∧ rel ρ c σ' s := by
    intro e h1 h2
    split
    · rename_i l ha
      obtain ⟨⟨xs, rfl, g⟩, hs⟩ := slv_val hr ha hv
      cases t with
      | true => exact ⟨σ, rfl, hr⟩
      | false =>
        obtain ⟨m, e1, g1⟩ := emp_ok2 g (h1 xs rfl rfl)
        rw [if_neg (by simp), e1]
        exact ⟨_, rfl, rel_setv hr ⟨_, hs, xs, rfl, g1⟩⟩
    · rename_i l ha
      obtain ⟨⟨xs, rfl, g⟩, hs⟩ := slv_val hr ha hv
      cases t with
      | false => exact ⟨σ, rfl, hr⟩
      | true =>
        obtain ⟨m, e1, g1⟩ := emp_ok2 g (h2 xs rfl rfl)
        rw [if_pos rfl, e1]
        exact ⟨_, rfl, rel_setv hr ⟨_, hs, xs, rfl, g1⟩⟩
    · rename_i b l ha
      have hq := hr.at_ i
      rw [ha] at hq
      obtain ⟨xs, hs, g⟩ := hq
      have hd : d = .list xs := by
        rcases hv with hv | ⟨b', ys, hv, rfl⟩
        · rw [hs] at hv; cases hv
        · rw [hs] at hv; cases hv; rfl
      cases t with
      | true => exact ⟨σ, rfl, hr⟩
      | false =>
        obtain ⟨m, e1, g1⟩ := emp_ok2 g (h1 xs rfl hd)
        rw [if_neg (by simp), e1]
        exact ⟨_, rfl, rel_setv hr ⟨_, hs, g1⟩⟩
    · exact ⟨σ, rfl, hr⟩
  have hcq : ∀ {x y : PyData} {q : Bool}, cmpD .eq x y = some q → PyData.eqv x y = q := by
    intro x y q h
    simp only [cmpD] at h
    split at h
    · cases h; rfl
    · cases h
  have hcn : ∀ {x y : PyData} {q : Bool}, cmpD .ne x y = some q → (!PyData.eqv x y) = q := by
    intro x y q h
    simp only [cmpD] at h
    split at h
    · cases h; rfl
    · cases h
  cases o with
  | eq =>
    refine key k (fun xs ht hd => ?_) fun xs ht hd => ?_
    · subst ht hd
      have := hcq hc
      simpa using this
    · subst ht hd
      have := hcq hc
      simpa using this
  | ne =>
    refine key (!k) (fun xs ht hd => ?_) fun xs ht hd => ?_
    · subst ht hd
      have := hcn hc
      rw [← this]
      simp
    · subst ht hd
      have := hcn hc
      rw [← this]
      simp
  | _ => exact ⟨σ, rfl, hr⟩
theorem rfKeep_ok {c : Ctx} {f : A → Bool} {P : PyData → Prop} (hf : ∀ a d, A.g ρ a d → P d → f a = true) {i : Nat} {σ : AE} {s : AS} {d : PyData} (hv : slv s i d) (hp : P d) (hr : rel ρ c σ s) : ∃ σ', rfKeep f i σ = some σ' ∧ rel ρ c σ' s := by
  unfold rfKeep
  split
  · rename_i a ha
    obtain ⟨g, hs⟩ := slv_val hr ha hv
    have g2 := keep_ok hf g hp
    split
    · rename_i hb
      rw [hb] at g2
      exact g2.elim
    · exact ⟨_, rfl, rel_setv hr ⟨_, hs, g2⟩⟩
  · exact ⟨σ, rfl, hr⟩
theorem tst_isN {Φ : Calls} {kk : Bool} {i : Nat} {s s' : AS} {k : Bool} (h : tst Φ (.isN kk (.var i)) s = .ok k s') : s' = s ∧ ∃ d, slv s i d ∧ (isNone d == kk) = k := by
  cases hs : sl s i with
  | none => simp [hs] at h
  | some v =>
    cases v with
    | exc _ _ => simp [hs] at h
    | val d =>
      simp [hs] at h
      exact ⟨h.2.symm, d, .inl hs, h.1⟩
    | own b xs =>
      simp [hs] at h
      exact ⟨h.2.symm, _, .inr ⟨b, xs, hs, rfl⟩, h.1⟩
theorem tst_inst2 {Φ : Calls} {t : Ty} {i : Nat} {s s' : AS} {k : Bool} (h : tst Φ (.inst (.var i) t) s = .ok k s') : s' = s ∧ ∃ d, slv s i d ∧ instD t d = k := by
  cases hs : sl s i with
  | none => simp [hs] at h
  | some v =>
    cases v with
    | exc _ _ => simp [hs] at h
    | val d =>
      cases hk : instOk d with
      | false => simp [hs, hk] at h
      | true =>
        simp [hs, hk] at h
        exact ⟨h.2.symm, d, .inl hs, h.1⟩
    | own b xs =>
      simp [hs, instOk] at h
      exact ⟨h.2.symm, _, .inr ⟨b, xs, hs, rfl⟩, h.1⟩
theorem refine_ok (HO : OpqOk O ρ) {Φ : Calls} {c : Ctx} {t : E} {k : Bool} {σ : AE} {s s' : AS} (h : tst Φ t s = .ok k s') (hr : rel ρ c σ s') : ∃ σ', refine O t k σ = some σ' ∧ rel ρ c σ' s' := by
  unfold refine
  split
  · rename_i o i n
    obtain ⟨rfl, d, hv, hc⟩ := tst_vl (x := .int n) (fun s => by simp) h
    exact rfInt_ok HO (Φ := Φ) hv hc hr
  · obtain ⟨rfl, d, hv, hc⟩ := tst_vl (x := .list []) (fun s => by simp) h
    exact rfEmp_ok (t := false) hv hc hr
  · obtain ⟨rfl, d, hv, hc⟩ := tst_vl (x := .tuple []) (fun s => by simp) h
    exact rfEmp_ok (t := true) hv hc hr
  · obtain ⟨rfl, d, hv, hc⟩ := tst_vl (x := .tuple []) (fun s => by simp) h
    exact rfEmp_ok (t := true) hv hc hr
  · rename_i kk i
    obtain ⟨rfl, d, hv, hc⟩ := tst_isN h
    refine rfKeep_ok (P := fun d => (isNone d == kk) = k) (fun a d ga hd => ?_) hv hc hr
    unfold fIsn
    split
    · rename_i p hp
      have := isn_ok HO hp ga
      have e : isNone d = (kk == k) := by
        rw [← hd]
        cases isNone d <;> cases kk <;> rfl
      rw [← e]
      exact hasB_ok this
    · rfl
  · rename_i i t
    obtain ⟨rfl, d, hv, hc⟩ := tst_inst2 h
    refine rfKeep_ok (P := fun d => instD t d = k) (fun a d ga hd => ?_) hv hc hr
    unfold fInst
    split
    · rename_i p hp
      have := (inst_ok HO hp ga).2
      rw [← hd]
      exact hasB_ok this
    · rfl
  · exact ⟨σ, rfl, hr⟩
theorem S_rf (HO : OpqOk O ρ) {Φ : Calls} {c : Ctx} {t : E} {w : W Bool} {m : M Bool} (hm : tst Φ t = m) (h : Snd ρ c (fun a b => a = b) w m) : Snd ρ c (fun a b => a = b) (rfW O t w) m := by
  intro σ s outs hr e
  unfold rfW at e
  cases hw : w σ with
  | none => rw [hw] at e; cases e
  | some os =>
    rw [hw] at e
    simp only [fc_eq] at e
    cases e
    obtain ⟨b, s', e1, a, σ', hmem, rfl, hr'⟩ := h σ s os hr hw
    obtain ⟨σ2, e2, hr2⟩ := refine_ok HO (t := t) (by rw [hm]; exact e1) hr'
    exact ⟨a, s', e1, a, σ2, List.mem_filterMap.mpr ⟨(a, σ'), hmem, by simp [e2]⟩, rfl, hr2⟩
end
end AM.AI
set_option Elab.async false
set_option linter.all false
set_option maxRecDepth 100000
set_option maxHeartbeats 4000000
/-! AI11: the evaluator of terms is sound, whole. -/
namespace AM.AI
open PySem
/-- of what is walked -/
def SndI (ρ : Nat → PyData → Prop) (c : Ctx) (w : W (A × Option Nat)) (m : M Src) : Prop := ∀ σ s outs, rel ρ c σ s → w σ = some outs → ∃ src s', m s = .ok src s' ∧ ∃ p σ', (p, σ') ∈ outs ∧ p.1.gl ρ src.1 ∧ gdR p.2 src.2 s' ∧ rel ρ c σ' s'
structure AllOk (ρ : Nat → PyData → Prop) (C : Cfg) (Φ : Calls) (T : Int) (e : E) : Prop where
  ev : ∀ c, c.t0 + KMI ≤ T → Snd ρ c (AA.r ρ) (evA C e) (ev Φ e)
  part : ∀ c, c.t0 + KMI ≤ T → Snd ρ c ptR (partA C e) (part Φ e)
  evs : ∀ c, c.t0 + KMI ≤ T → Snd ρ c (aAll ρ) (evsA C e) (evs Φ e)
  evAn : ∀ c, c.t0 + KMI ≤ T → Snd ρ c (AA.r ρ) (evAnA C e) (evAn Φ e)
  evOr : ∀ c, c.t0 + KMI ≤ T → Snd ρ c (AA.r ρ) (evOrA C e) (evOr Φ e)
  tst : ∀ c, c.t0 + KMI ≤ T → Snd ρ c (fun a b => a = b) (tstA C e) (tst Φ e)
  tstAn : ∀ c, c.t0 + KMI ≤ T → Snd ρ c (fun a b => a = b) (tstAnA C e) (tstAn Φ e)
  tstOr : ∀ c, c.t0 + KMI ≤ T → Snd ρ c (fun a b => a = b) (tstOrA C e) (tstOr Φ e)
  tsts : ∀ c, c.t0 + KMI ≤ T → Snd ρ c (fun a b => a = b) (tstsA C e) (tsts Φ e)
  it : ∀ c fr, c.t0 + KMI ≤ T → SndI ρ c (evItA C fr e) (evIt Φ fr e)
section
variable {ρ : Nat → PyData → Prop} {C : Cfg} {Φ : Calls} {T : Int}
theorem sndI_bind {α β : Type} {c : Ctx} {R : α → β → Prop} {w : W α} {m : M β} {f : α → W (A × Option Nat)} {k : β → M Src} (h : Snd ρ c R w m) (h2 : ∀ a b, R a b → SndI ρ c (f a) (k b)) : SndI ρ c (wb w f) (bnd m k) := fun σ s outs hr e => by
  unfold wb at e
  cases h1 : w σ with
  | none => rw [h1] at e; cases e
  | some o =>
    rw [h1] at e
    obtain ⟨b, s', e1, a, σ', hm, hab, hr'⟩ := h σ s o hr h1
    obtain ⟨o2, e2, hsub⟩ := wcat_mem e hm
    obtain ⟨d, s2, e3, g, σ2, hm2, hg1, hg2, hr2⟩ := h2 a b hab σ' s' o2 hr' e2
    exact ⟨d, s2, by unfold bnd; rw [e1]; exact e3, g, σ2, hsub _ hm2, hg1, hg2, hr2⟩
theorem seqV_ok (HO : OpqOk C.O ρ) {a l : A} {d : PyData} (h : a.seqV C.O = some l) (g : a.g ρ d) : ∃ xs, (d = .tuple xs ∨ d = .list xs) ∧ l.gl ρ xs := by
  unfold A.seqV at h
  split at h
  · rename_i m hm
    cases h
    obtain ⟨xs, e, g⟩ := seqT_ok HO hm g
    exact ⟨xs, .inl e, g⟩
  · obtain ⟨xs, e, g⟩ := seqL_ok HO h g
    exact ⟨xs, .inr e, g⟩
theorem sndI_src (HO : OpqOk C.O ρ) {c : Ctx} {a : AA} {v : AV} (h : a.r ρ v) : SndI ρ c (srcW C.O a) (srcOf v) := by
  intro σ s outs hr e
  cases a with
  | val a =>
    cases v with
    | val d =>
      simp only [srcW] at e
      cases hl : a.seqV C.O with
      | none => rw [hl] at e; cases e
      | some l =>
        rw [hl, Option.map_some, wlift_some] at e
        cases e
        obtain ⟨xs, hd, g⟩ := seqV_ok HO hl h
        refine ⟨(xs, []), s, ?_, _, _, List.mem_singleton.mpr rfl, g, rfl, hr⟩
        rcases hd with rfl | rfl <;> simp
    | _ => exact h.elim
  | bor i =>
    cases v with
    | bor j =>
      have : i = j := h
      subst this
      have hs := hr.at_ i
      simp only [srcW] at e
      cases hq : sa σ i with
      | own b l =>
        rw [hq] at hs e
        cases e
        obtain ⟨xs, e1, g⟩ := hs
        refine ⟨(xs, [(i, xs)]), s, by simp [e1, gd], _, _, List.mem_singleton.mpr rfl, g, ⟨b, xs, rfl, e1⟩, hr⟩
      | ref b l =>
        rw [hq] at hs e
        cases e
        obtain ⟨e1, g⟩ := hs
        refine ⟨(c.th i, [(i, c.th i)]), s, by simp [e1, gd], _, _, List.mem_singleton.mpr rfl, g, ⟨b, _, rfl, e1⟩, hr⟩
      | _ => rw [hq] at e; cases e
    | _ => exact h.elim
  | new l => cases e
theorem S_it {c : Ctx} {fr : Bool} {w : W AA} {m : M AV} (h : Snd ρ c (AA.r ρ) w m) : Snd ρ c (AA.r ρ) (itW fr w) (itA fr m) := by
  cases fr with
  | true => exact S_bind (S_vl h) fun d x g => S_ret g
  | false => exact S_opn h
theorem mkOk (HC : CfgOk ρ C Φ T) {e : E} (h : ∀ c, c.t0 + KMI ≤ T → Snd ρ c (AA.r ρ) (evA C e) (ev Φ e))
    (hp : partA C e = wb (vlW (evA C e)) fun d => wlift (match d.ints with
      | some p => some (some p)
      | none => none)) (hp' : part Φ e = bnd (vl (ev Φ e)) fun d => lift (partD d))
    (ht : ∀ c, c.t0 + KMI ≤ T → Snd ρ c (fun a b => a = b) (tstA C e) (tst Φ e))
    (hi : ∀ fr, evItA C fr e = wb (itW fr (evA C e)) (srcW C.O)) (hi' : ∀ fr, evIt Φ fr e = bnd (itA fr (ev Φ e)) srcOf)
    (h1 : evsA C e = wfail) (h2 : evAnA C e = wfail) (h3 : evOrA C e = wfail) (h4 : tstAnA C e = wfail) (h5 : tstOrA C e = wfail) (h6 : tstsA C e = wfail) : AllOk ρ C Φ T e where
  ev := h
  part c hc := by
    rw [hp, hp']
    refine S_bind (S_vl (h c hc)) fun a d g => S_lift fun x e => ?_
    split at e
    · rename_i p hq
      cases e
      obtain ⟨i, rfl, g1, g2⟩ := ints_ok (l := p.1) (h := p.2) hq g
      exact ⟨some i, rfl, g1, g2⟩
    · cases e
  evs c _ := by rw [h1]; exact S_fail
  evAn c _ := by rw [h2]; exact S_fail
  evOr c _ := by rw [h3]; exact S_fail
  tst := ht
  tstAn c _ := by rw [h4]; exact S_fail
  tstOr c _ := by rw [h5]; exact S_fail
  tsts c _ := by rw [h6]; exact S_fail
  it c fr hc := by
    rw [hi fr, hi' fr]
    exact sndI_bind (S_it (h c hc)) fun a v g => sndI_src HC.O g
/-- a truth's test -/
theorem mkT (HC : CfgOk ρ C Φ T) {e : E} (h : ∀ c, c.t0 + KMI ≤ T → Snd ρ c (AA.r ρ) (evA C e) (ev Φ e)) (ht : tstA C e = rfW C.O e (wb (wb (opnW (evA C e)) (trW C.O)) wfork)) (ht' : tst Φ e = bnd (opn (ev Φ e)) trA) : ∀ c, c.t0 + KMI ≤ T → Snd ρ c (fun a b => a = b) (tstA C e) (tst Φ e) := fun c hc => by
  rw [ht]
  refine S_rf HC.O rfl ?_
  rw [ht']
  have : bnd (opn (ev Φ e)) trA = bnd (bnd (opn (ev Φ e)) trA) ret := by
    funext s
    simp only [bnd, ret]
    cases (opn (ev Φ e) s) with
    | ok a s => simp only [Out.bd]; cases trA a s <;> rfl
    | err _ _ _ => rfl
    | bad => rfl
  rw [this]
  exact S_bind (S_bind (S_opn (h c hc)) fun a v g => S_tr HC.O g) fun p k hk => S_fork hk
theorem mkF {e : E} (h : ∀ s, ev Φ e s = .bad) (hh : evA C e = wfail) : ∀ c, c.t0 + KMI ≤ T → Snd ρ c (AA.r ρ) (evA C e) (ev Φ e) := fun c _ => by
  rw [hh]
  exact S_fail
theorem S_bin (HC : CfgOk ρ C Φ T) {c : Ctx} {o : BOp} {w w' : W AA} {m m' : M AV} (h : Snd ρ c (AA.r ρ) w m) (h' : Snd ρ c (AA.r ρ) w' m') : Snd ρ c (AA.r ρ) (binW C.O o w w') (bin2 o m m') :=
  S_bind (S_opn h) fun x v gx => S_bind (S_opn h') fun y u gy => S_bind (S_rd gx) fun d x' gd => S_bind (S_rd gy) fun e y' ge => S_lift fun r hr => by
    obtain ⟨v, h1, h2⟩ := bin_ok HC.O hr gd ge
    exact ⟨v, h1, h2⟩
theorem S_cmp (HC : CfgOk ρ C Φ T) {c : Ctx} {o : COp} {w w' : W AA} {m m' : M AV} (h : Snd ρ c (AA.r ρ) w m) (h' : Snd ρ c (AA.r ρ) w' m') : Snd ρ c BB.has (cmpW C.O o w w') (cmp2 o m m') :=
  S_bind (S_opn h) fun x v gx => S_bind (S_opn h') fun y u gy => S_bind (S_rd gx) fun d x' gd => S_bind (S_rd gy) fun e y' ge => S_lift fun r hr => by
    obtain ⟨v, h1, h2⟩ := cmp_ok HC.O hr gd ge
    exact ⟨v, h1, h2⟩
theorem S_chn (HC : CfgOk ρ C Φ T) {c : Ctx} {o o' : COp} {w w' w2 : W AA} {m m' m2 : M AV} (h : Snd ρ c (AA.r ρ) w m) (h' : Snd ρ c (AA.r ρ) w' m') (h2 : Snd ρ c (AA.r ρ) w2 m2) : Snd ρ c BB.has (chnW C.O o o' w w' w2) (chn3 o o' m m' m2) :=
  S_bind (S_opn h) fun x v gx => S_bind (S_opn h') fun y u gy => S_bind (S_rd gx) fun d x' gd => S_bind (S_rd gy) fun e y' ge => S_bind (R := BB.has) (S_lift fun r hr => by
    obtain ⟨v, h1, h2⟩ := cmp_ok HC.O hr gd ge
    exact ⟨v, h1, h2⟩) fun p k hk => S_if hk (S_bind (S_opn h2) fun z t gz => S_bind (S_rd gy) fun e y' ge => S_bind (S_rd gz) fun f z' gf => S_lift fun r hr => by
      obtain ⟨v, h1, h2⟩ := cmp_ok HC.O hr ge gf
      exact ⟨v, h1, h2⟩) (S_ret rfl)
theorem S_bool {c : Ctx} {w : W BB} {m : M Bool} (h : Snd ρ c BB.has w m) : Snd ρ c (AA.r ρ) (wb w fun p => wret (.val (.bool p.1 p.2))) (bnd m fun k => ret (.val (.bool k))) :=
  S_bind h fun p k hk => S_ret (show A.g ρ (.bool p.1 p.2) (.bool k) from ⟨k, rfl, fun e => by subst e; exact hk, fun e => by subst e; exact hk⟩)
theorem S_forkB {c : Ctx} {w : W BB} {m : M Bool} (h : Snd ρ c BB.has w m) : Snd ρ c (fun a b => a = b) (wb w wfork) m := by
  have : m = bnd m ret := by
    funext s
    simp only [bnd, ret]
    cases m s <;> rfl
  rw [this]
  exact S_bind h fun p k hk => S_fork hk
theorem ofL_ok : ∀ {as : List A} {ds : List PyData}, gAll ρ as ds → (ofL as).gl ρ ds ∧ as.length = ds.length
  | [], [], _ => ⟨rfl, rfl⟩
  | a :: as, d :: ds, h => ⟨⟨d, ds, rfl, h.1, (ofL_ok h.2).1⟩, by simp [(ofL_ok h.2).2]⟩
  | [], _ :: _, h => h.elim
  | _ :: _, [], h => h.elim
mutual
theorem ofD_ok : ∀ d : PyData, (ofD d).g ρ d
  | .none => rfl
  | .bool b => ⟨b, rfl, fun e => by simp [e], fun e => by simp [e]⟩
  | .int i => ⟨i, rfl, Int.le_refl _, Int.le_refl _⟩
  | .str x => by
    unfold ofD
    split
    · rename_i h
      exact ⟨x, rfl, h⟩
    · exact trivial
  | .list xs => ⟨xs, rfl, ofDs_ok xs⟩
  | .tuple xs => ⟨xs, rfl, ofDs_ok xs⟩
  | .dict _ => trivial
theorem ofDs_ok : ∀ xs : List PyData, (ofDs xs).gl ρ xs
  | [] => rfl
  | x :: xs => ⟨x, xs, rfl, ofD_ok x, ofDs_ok xs⟩
end
theorem enumD_ok {P : PyData → Prop} : ∀ {xs : List PyData} {i : Nat}, (enumD i xs).length = xs.length ∧ ((∀ x ∈ xs, P x) → ∀ d ∈ enumD i xs, ∃ (k : Nat) (x : PyData), d = .tuple [.int k, x] ∧ k < i + xs.length ∧ P x)
  | [], i => ⟨rfl, fun _ d m => by cases m⟩
  | x :: xs, i => by
    obtain ⟨h1, h2⟩ := enumD_ok (P := P) (xs := xs) (i := i + 1)
    refine ⟨by simp [enumD, h1], fun hp d m => ?_⟩
    unfold enumD at m
    rcases List.mem_cons.mp m with rfl | m
    · exact ⟨i, x, rfl, by simp, hp x (List.mem_cons_self ..)⟩
    · obtain ⟨k, y, e, hk, hy⟩ := h2 (fun y m => hp y (List.mem_cons_of_mem _ m)) d m
      exact ⟨k, y, e, by simp only [List.length_cons]; omega, hy⟩
theorem zipD_ok {P Q : PyData → Prop} : ∀ {xs ys : List PyData}, (zipD xs ys).length = min xs.length ys.length ∧ ((∀ x ∈ xs, P x) → (∀ x ∈ ys, Q x) → ∀ d ∈ zipD xs ys, ∃ (x y : PyData), d = .tuple [x, y] ∧ P x ∧ Q y)
  | [], ys => ⟨by simp [zipD], fun _ _ d m => by cases ys <;> cases m⟩
  | x :: xs, [] => ⟨by simp [zipD], fun _ _ d m => by cases m⟩
  | x :: xs, y :: ys => by
    obtain ⟨h1, h2⟩ := zipD_ok (P := P) (Q := Q) (xs := xs) (ys := ys)
    refine ⟨by simp only [zipD, List.length_cons, h1]; omega, fun hp hq d m => ?_⟩
    unfold zipD at m
    rcases List.mem_cons.mp m with rfl | m
    · exact ⟨x, y, rfl, hp x (List.mem_cons_self ..), hq y (List.mem_cons_self ..)⟩
    · exact h2 (fun y m => hp y (List.mem_cons_of_mem _ m)) (fun y m => hq y (List.mem_cons_of_mem _ m)) d m
theorem sndI_ret {c : Ctx} {p : A × Option Nat} {l : List PyData} (h : p.1.gl ρ l) (hp : p.2 = none) : SndI ρ c (wret p) (ret (l, [])) := fun σ s outs hr e => by
  cases e
  exact ⟨(l, []), s, rfl, p, σ, List.mem_singleton.mpr rfl, h, by rw [hp]; rfl, hr⟩
theorem rngA_ok {c : Ctx} {a b : A} {i j : Int} {p : A × Option Nat} (h : rngA a b = some p) (ga : a.g ρ (.int i)) (gb : b.g ρ (.int j)) : rngOk i = true ∧ rngOk j = true ∧ p.1.gl ρ (rangeD i j) ∧ p.2 = none := by
  unfold rngA at h
  split at h
  · rename_i l h1 l' h1' e1 e2
    obtain ⟨i', ei, g1, g2⟩ := ints_ok e1 ga
    obtain ⟨j', ej, g3, g4⟩ := ints_ok e2 gb
    cases ei
    cases ej
    split at h
    · rename_i hb
      simp only [Bool.and_eq_true, decide_eq_true_eq] at hb
      cases h
      refine ⟨?_, ?_, ⟨?_, ?_, ?_⟩, rfl⟩
      · unfold rngOk; rw [Bool.and_eq_true, decide_eq_true_eq, decide_eq_true_eq]; omega
      · unfold rngOk; rw [Bool.and_eq_true, decide_eq_true_eq, decide_eq_true_eq]; omega
      · unfold rangeD; rw [List.length_map, List.length_range]; omega
      · unfold rangeD; rw [List.length_map, List.length_range]; omega
      · intro x hx
        unfold rangeD at hx
        obtain ⟨k, hk, rfl⟩ := List.mem_map.mp hx
        rw [List.mem_range] at hk
        exact ⟨_, rfl, by omega, by omega⟩
    · cases h
  · cases h
theorem zip_ok (HO : OpqOk C.O ρ) {x y : AA} {d e : PyData} {p : A × Option Nat} (h : zipA C.O x y = some p) (gx : x.r ρ (.val d)) (gy : y.r ρ (.val e)) : ∃ l, zipK (.val d) d (.val e) e = some (l, []) ∧ p.1.gl ρ l ∧ p.2 = none := by
  have fin : ∀ {l m : A} {xs ys : List PyData} {a b a' b' : Nat}, l.gl ρ xs → m.gl ρ ys → l.len = some (a, b) → m.len = some (a', b') → A.gl ρ (.rep (.tup (.cons (A.allJ C.O FU l) (.cons (A.allJ C.O FU m) .nil))) (min a a') (min b b')) (zipD xs ys) := by
    intro l m xs ys a b a' b' g1 g2 h1 h2
    have k1 := len_ok h1 g1
    have k2 := len_ok h2 g2
    obtain ⟨z1, z2⟩ := zipD_ok (P := A.g ρ (A.allJ C.O FU l)) (Q := A.g ρ (A.allJ C.O FU m)) (xs := xs) (ys := ys)
    refine ⟨by rw [z1]; omega, by rw [z1]; omega, fun d hd => ?_⟩
    obtain ⟨x, y, rfl, hx, hy⟩ := z2 (fun x m => allJ_ok HO g1 m) (fun x m => allJ_ok HO g2 m) d hd
    exact ⟨_, rfl, x, [y], rfl, hx, y, [], rfl, hy, rfl⟩
  unfold zipA at h
  split at h
  · split at h
    · rename_i h1 h2
      obtain ⟨xs, rfl, gx2⟩ := seqT_ok HO h1 gx
      obtain ⟨ys, rfl, gy2⟩ := seqT_ok HO h2 gy
      split at h
      · rename_i h3 h4
        cases h
        exact ⟨_, rfl, fin gx2 gy2 h3 h4, rfl⟩
      · cases h
    · split at h
      · rename_i h1 h2
        obtain ⟨xs, rfl, gx2⟩ := seqL_ok HO h1 gx
        obtain ⟨ys, rfl, gy2⟩ := seqL_ok HO h2 gy
        split at h
        · rename_i h3 h4
          cases h
          exact ⟨_, rfl, fin gx2 gy2 h3 h4, rfl⟩
        · cases h
      · cases h
  · cases h
end
end AM.AI
set_option Elab.async false
set_option linter.all false
set_option maxRecDepth 100000
set_option maxHeartbeats 8000000
/-! AI12: the evaluator of terms is sound: by induction on terms. -/
namespace AM.AI
open PySem
section
variable {ρ : Nat → PyData → Prop} {C : Cfg} {Φ : Calls} {T : Int}
theorem fail_of {c : Ctx} {α β : Type} {R : α → β → Prop} {w : W α} {m : M β} (h : w = wfail) : Snd ρ c R w m := by rw [h]; exact S_fail
theorem sndI_fail {c : Ctx} {w : W (A × Option Nat)} {m : M Src} (h : w = wfail) : SndI ρ c w m := by
  rw [h]
  intro σ s outs hr e
  cases e
theorem wb_fail {α β : Type} (f : α → W β) : wb wfail f = wfail := rfl
theorem allOk (HC : CfgOk ρ C Φ T) : ∀ e : E, AllOk ρ C Φ T e := by
  intro e
  induction e with
  | var i =>
    have h : ∀ c, c.t0 + KMI ≤ T → Snd ρ c (AA.r ρ) (evA C (.var i)) (ev Φ (.var i)) := by
      intro c hc σ s outs hr e
      have hs := hr.at_ i
      simp only [evA, resA, mkR] at e
      cases hq : sa σ i with
      | val a =>
        rw [hq] at hs e
        cases e
        obtain ⟨d, e1, g⟩ := hs
        exact ⟨.val d, s, by simp [e1], _, _, List.mem_singleton.mpr rfl, g, hr⟩
      | own b l =>
        rw [hq] at hs e
        cases e
        obtain ⟨xs, e1, g⟩ := hs
        exact ⟨.bor i, s, by simp [e1], _, _, List.mem_singleton.mpr rfl, rfl, hr⟩
      | ref b l =>
        rw [hq] at hs e
        cases e
        obtain ⟨e1, g⟩ := hs
        exact ⟨.bor i, s, by simp [e1], _, _, List.mem_singleton.mpr rfl, rfl, hr⟩
      | jar b k =>
        rw [hq] at hs e
        cases e
        obtain ⟨xs, e1, g⟩ := hs
        exact ⟨.bor i, s, by simp [e1], _, _, List.mem_singleton.mpr rfl, rfl, hr⟩
      | _ => rw [hq] at e; cases e
    exact mkOk HC h rfl (by simp only [part]) (mkT HC h rfl (by simp only [tst])) (fun _ => rfl) (fun fr => by simp only [evIt]) rfl rfl rfl rfl rfl rfl
  | lit d =>
    have h : ∀ c, c.t0 + KMI ≤ T → Snd ρ c (AA.r ρ) (evA C (.lit d)) (ev Φ (.lit d)) := fun c hc => by
      rw [ev_lit]
      exact S_ret (show AA.r ρ (.val (ofD d)) (.val d) from ofD_ok d)
    exact mkOk HC h rfl (by simp only [part]) (mkT HC h rfl (by simp only [tst])) (fun _ => rfl) (fun fr => by simp only [evIt]) rfl rfl rfl rfl rfl rfl
  | glb x d =>
    have h : ∀ c, c.t0 + KMI ≤ T → Snd ρ c (AA.r ρ) (evA C (.glb x d)) (ev Φ (.glb x d)) := fun c hc => by
      rw [ev_glb]
      exact S_ret (show AA.r ρ (.val (ofD d)) (.val d) from ofD_ok d)
    exact mkOk HC h rfl (by simp only [part]) (mkT HC h rfl (by simp only [tst])) (fun _ => rfl) (fun fr => by simp only [evIt]) rfl rfl rfl rfl rfl rfl
  | neg a ih =>
    have h : ∀ c, c.t0 + KMI ≤ T → Snd ρ c (AA.r ρ) (evA C (.neg a)) (ev Φ (.neg a)) := fun c hc => by
      have e : ev Φ (.neg a) = bnd (opn (ev Φ a)) fun x => bnd (rd x) fun d => lift (match d with
        | .int i => some (AV.val (.int (-i)))
        | _ => none) := by
        funext s
        rw [ev_neg]
        simp only [bnd_ap, opn_ap, bd_assoc]
        congr 1; funext x s; congr 1; funext x s; congr 1; funext d s
        cases d <;> rfl
      rw [e]
      exact S_bind (S_opn (ih.ev c hc)) fun x v gx => S_bind (S_rd gx) fun d y gd => S_lift fun r hr => by
        split at hr
        · rename_i l h hq
          cases hr
          obtain ⟨i, rfl, h1, h2⟩ := ints_ok hq gd
          exact ⟨_, rfl, _, rfl, by omega, by omega⟩
        · cases hr
    exact mkOk HC h rfl (by simp only [part]) (mkT HC h rfl (by simp only [tst])) (fun _ => rfl) (fun fr => by simp only [evIt]) rfl rfl rfl rfl rfl rfl
  | nt a ih =>
    have h : ∀ c, c.t0 + KMI ≤ T → Snd ρ c (AA.r ρ) (evA C (.nt a)) (ev Φ (.nt a)) := fun c hc => by
      rw [ev_nt]
      exact S_bind (S_bind (S_opn (ih.ev c hc)) fun x v gx => S_tr HC.O gx) fun p k hk => S_ret (show AA.r ρ (.val (.bool p.2 p.1)) (.val (.bool !k)) from ⟨!k, rfl, fun e => (by cases k <;> first | exact hk | (cases e; done)), fun e => (by cases k <;> first | exact hk | (cases e; done))⟩)
    exact mkOk HC h rfl (by simp only [part]) (fun c hc => by rw [tst_nt]; exact S_bind (ih.tst c hc) fun a b e => S_ret (by rw [e])) (fun _ => rfl) (fun fr => by simp only [evIt]) rfl rfl rfl rfl rfl rfl
  | an l ih =>
    have h : ∀ c, c.t0 + KMI ≤ T → Snd ρ c (AA.r ρ) (evA C (.an l)) (ev Φ (.an l)) := fun c hc => by rw [ev_an]; exact ih.evAn c hc
    exact mkOk HC h rfl (by simp only [part]) (fun c hc => by rw [tst_an]; exact ih.tstAn c hc) (fun _ => rfl) (fun fr => by simp only [evIt]) rfl rfl rfl rfl rfl rfl
  | orr l ih =>
    have h : ∀ c, c.t0 + KMI ≤ T → Snd ρ c (AA.r ρ) (evA C (.orr l)) (ev Φ (.orr l)) := fun c hc => by rw [ev_orr]; exact ih.evOr c hc
    exact mkOk HC h rfl (by simp only [part]) (fun c hc => by rw [tst_orr]; exact ih.tstOr c hc) (fun _ => rfl) (fun fr => by simp only [evIt]) rfl rfl rfl rfl rfl rfl
  | ite t a b iht iha ihb =>
    have h : ∀ c, c.t0 + KMI ≤ T → Snd ρ c (AA.r ρ) (evA C (.ite t a b)) (ev Φ (.ite t a b)) := fun c hc => by
      rw [ev_ite]
      refine S_bind (iht.tst c hc) fun k k' e => ?_
      subst e
      cases k
      · exact ihb.ev c hc
      · exact iha.ev c hc
    exact mkOk HC h rfl (by simp only [part]) (fun c hc => by
      rw [tst_ite]
      exact S_bind (iht.tst c hc) fun k k' e => by
        subst e
        cases k
        · exact ihb.tst c hc
        · exact iha.tst c hc) (fun _ => rfl) (fun fr => by simp only [evIt]) rfl rfl rfl rfl rfl rfl
  | bin o a b iha ihb =>
    have h : ∀ c, c.t0 + KMI ≤ T → Snd ρ c (AA.r ρ) (evA C (.bin o a b)) (ev Φ (.bin o a b)) := fun c hc => by
      rw [ev_bin]
      exact S_bin HC (iha.ev c hc) (ihb.ev c hc)
    exact mkOk HC h rfl (by simp only [part]) (mkT HC h rfl (by simp only [tst])) (fun _ => rfl) (fun fr => by simp only [evIt]) rfl rfl rfl rfl rfl rfl
  | cmp o a b iha ihb =>
    have h : ∀ c, c.t0 + KMI ≤ T → Snd ρ c (AA.r ρ) (evA C (.cmp o a b)) (ev Φ (.cmp o a b)) := fun c hc => by
      rw [ev_cmp]
      exact S_bool (S_cmp HC (iha.ev c hc) (ihb.ev c hc))
    exact mkOk HC h rfl (by simp only [part]) (fun c hc => S_rf HC.O (t := .cmp o a b) rfl (by rw [tst_cmp]; exact S_forkB (S_cmp HC (iha.ev c hc) (ihb.ev c hc)))) (fun _ => rfl) (fun fr => by simp only [evIt]) rfl rfl rfl rfl rfl rfl
  | chn o o' a b d iha ihb ihd =>
    have h : ∀ c, c.t0 + KMI ≤ T → Snd ρ c (AA.r ρ) (evA C (.chn o o' a b d)) (ev Φ (.chn o o' a b d)) := fun c hc => by
      rw [ev_chn]
      exact S_bool (S_chn HC (iha.ev c hc) (ihb.ev c hc) (ihd.ev c hc))
    exact mkOk HC h rfl (by simp only [part]) (fun c hc => by rw [tst_chn]; exact S_forkB (S_chn HC (iha.ev c hc) (ihb.ev c hc) (ihd.ev c hc))) (fun _ => rfl) (fun fr => by simp only [evIt]) rfl rfl rfl rfl rfl rfl
  | isN k a ih =>
    have h : ∀ c, c.t0 + KMI ≤ T → Snd ρ c (AA.r ρ) (evA C (.isN k a)) (ev Φ (.isN k a)) := fun c hc => by
      have e : ev Φ (.isN k a) = bnd (opn (ev Φ a)) fun x => bnd (rd x) fun d => lift (some (AV.val (.bool (isNone d == k)))) := by rw [ev_isN]; rfl
      rw [e]
      exact S_bind (S_opn (ih.ev c hc)) fun x v gx => S_bind (S_rd gx) fun d y gd => S_lift fun r hr => by
        split at hr
        · rename_i p hq
          cases hr
          have := isn_ok HC.O hq gd
          refine ⟨_, rfl, ?_⟩
          cases k with
          | true =>
            rw [if_pos rfl]
            refine ⟨_, rfl, fun e => ?_, fun e => ?_⟩
            · have e : isNone y = true := by simpa using e
              rw [e] at this; exact this
            · have e : isNone y = false := by simpa using e
              rw [e] at this; exact this
          | false =>
            rw [if_neg (by simp)]
            refine ⟨_, rfl, fun e => ?_, fun e => ?_⟩
            · have e : isNone y = false := by simpa using e
              rw [e] at this; exact this
            · have e : isNone y = true := by simpa using e
              rw [e] at this; exact this
        · cases hr
    exact mkOk HC h rfl (by simp only [part]) (mkT HC h rfl (by simp only [tst])) (fun _ => rfl) (fun fr => by simp only [evIt]) rfl rfl rfl rfl rfl rfl
  | nil =>
    exact ⟨fun c _ => fail_of rfl, fun c _ => fail_of rfl, fun c _ => by rw [evs_nil]; exact S_ret (show aAll ρ [] [] from trivial), fun c _ => fail_of rfl, fun c _ => fail_of rfl, fun c _ => fail_of rfl, fun c _ => fail_of rfl, fun c _ => fail_of rfl, fun c _ => by rw [tsts_nil]; exact S_ret rfl, fun c fr _ => sndI_fail (by cases fr <;> rfl)⟩
  | cons a r iha ihr =>
    have hAnd : ∀ c, c.t0 + KMI ≤ T → Snd ρ c (AA.r ρ) (wb (opnW (evA C a)) fun x => wb (trW C.O x) fun p => wif p (evAnA C r) (wret x)) (bnd (opn (ev Φ a)) fun x => bnd (trA x) fun k => if k then evAn Φ r else ret x) := fun c hc =>
      S_bind (S_opn (iha.ev c hc)) fun x v gx => S_bind (S_tr HC.O gx) fun p k hk => S_if hk (ihr.evAn c hc) (S_ret gx)
    have hOr : ∀ c, c.t0 + KMI ≤ T → Snd ρ c (AA.r ρ) (wb (opnW (evA C a)) fun x => wb (trW C.O x) fun p => wif p (wret x) (evOrA C r)) (bnd (opn (ev Φ a)) fun x => bnd (trA x) fun k => if k then ret x else evOr Φ r) := fun c hc =>
      S_bind (S_opn (iha.ev c hc)) fun x v gx => S_bind (S_tr HC.O gx) fun p k hk => S_if hk (S_ret gx) (ihr.evOr c hc)
    have hAt : ∀ c, c.t0 + KMI ≤ T → Snd ρ c (fun a b => a = b) (wb (tstA C a) fun k => if k then tstAnA C r else wret false) (bnd (tst Φ a) fun k => if k then tstAn Φ r else ret false) := fun c hc =>
      S_bind (iha.tst c hc) fun k k' e => by
        subst e
        cases k
        · exact S_ret rfl
        · exact ihr.tstAn c hc
    have hOt : ∀ c, c.t0 + KMI ≤ T → Snd ρ c (fun a b => a = b) (wb (tstA C a) fun k => if k then wret true else tstOrA C r) (bnd (tst Φ a) fun k => if k then ret true else tstOr Φ r) := fun c hc =>
      S_bind (iha.tst c hc) fun k k' e => by
        subst e
        cases k
        · exact ihr.tstOr c hc
        · exact S_ret rfl
    refine ⟨fun c _ => fail_of rfl, fun c _ => fail_of rfl, fun c hc => by rw [evs_cons]; exact S_bind (S_opn (iha.ev c hc)) fun x v gx => S_bind (ihr.evs c hc) fun xs vs gs => S_ret (show aAll ρ (x :: xs) (v :: vs) from ⟨gx, gs⟩), ?_, ?_, fun c _ => fail_of rfl, ?_, ?_, ?_, fun c fr _ => sndI_fail (by cases fr <;> rfl)⟩
    · cases r <;> first | (intro c hc; rw [evAn_c]; exact hAnd c hc) | (intro c hc; rw [evAn_1]; exact iha.ev c hc) | exact fun c _ => fail_of rfl
    · cases r <;> first | (intro c hc; rw [evOr_c]; exact hOr c hc) | (intro c hc; rw [evOr_1]; exact iha.ev c hc) | exact fun c _ => fail_of rfl
    · cases r <;> first | (intro c hc; rw [tstAn_c]; exact hAt c hc) | (intro c hc; rw [tstAn_1]; exact iha.tst c hc) | exact fun c _ => fail_of rfl
    · cases r <;> first | (intro c hc; rw [tstOr_c]; exact hOt c hc) | (intro c hc; rw [tstOr_1]; exact iha.tst c hc) | exact fun c _ => fail_of rfl
    · cases r <;> first | (intro c hc; rw [tsts_one]; exact iha.tst c hc) | exact fun c _ => fail_of rfl
  | tup l ih =>
    have h : ∀ c, c.t0 + KMI ≤ T → Snd ρ c (AA.r ρ) (evA C (.tup l)) (ev Φ (.tup l)) := fun c hc => by
      rw [ev_tup]
      exact S_bind (S_bind (ih.evs c hc) fun xs vs gs => S_fzs gs) fun as ds g => by
        obtain ⟨g1, g2⟩ := ofL_ok g
        by_cases hl : as.length ≤ 1000000
        · have : fits ds.length = true := fits_of (by omega)
          rw [if_pos hl, if_pos this]
          exact S_ret (show AA.r ρ (.val (.tup (ofL as))) (.val (.tuple ds)) from ⟨ds, rfl, g1⟩)
        · rw [if_neg hl]
          exact S_fail
    exact mkOk HC h rfl (by simp only [part]) (mkT HC h rfl (by simp only [tst])) (fun _ => rfl) (fun fr => by simp only [evIt]) rfl rfl rfl rfl rfl rfl
  | lst l ih =>
    have h : ∀ c, c.t0 + KMI ≤ T → Snd ρ c (AA.r ρ) (evA C (.lst l)) (ev Φ (.lst l)) := fun c hc => by
      rw [ev_lst]
      exact S_bind (S_bind (ih.evs c hc) fun xs vs gs => S_fzs gs) fun as ds g => by
        obtain ⟨g1, g2⟩ := ofL_ok g
        by_cases hl : as.length ≤ 1000000
        · have : fits ds.length = true := fits_of (by omega)
          rw [if_pos hl, if_pos this]
          exact S_ret (show AA.r ρ (.new (ofL as)) (.new ds) from g1)
        · rw [if_neg hl]
          exact S_fail
    exact mkOk HC h rfl (by simp only [part]) (mkT HC h rfl (by simp only [tst])) (fun _ => rfl) (fun fr => by simp only [evIt]) rfl rfl rfl rfl rfl rfl
  | ix a i iha ihi =>
    have h : ∀ c, c.t0 + KMI ≤ T → Snd ρ c (AA.r ρ) (evA C (.ix a i)) (ev Φ (.ix a i)) := fun c hc => by
      have e : ev Φ (.ix a i) = bnd (opn (ev Φ a)) fun x => bnd (vl (ev Φ i)) fun j => bnd (rd x) fun d => lift ((ixD d j).map AV.val) := by
        rw [ev_ix]
        congr 1; funext x; congr 1; funext j; congr 1; funext d
        cases ixD d j <;> rfl
      rw [e]
      exact S_bind (S_opn (iha.ev c hc)) fun x v gx => S_bind (S_vl (ihi.ev c hc)) fun j z gj => S_bind (S_rd gx) fun d y gd => S_lift fun r hr => by
        split at hr
        · rename_i w hq
          cases hr
          obtain ⟨q, h1, h2⟩ := ix_ok HC.O hq gd gj
          exact ⟨.val q, by rw [h1]; rfl, h2⟩
        · cases hr
    exact mkOk HC h rfl (by simp only [part]) (mkT HC h rfl (by simp only [tst])) (fun _ => rfl) (fun fr => by simp only [evIt]) rfl rfl rfl rfl rfl rfl
  | slc a lo hi iha ihl ihh =>
    have h : ∀ c, c.t0 + KMI ≤ T → Snd ρ c (AA.r ρ) (evA C (.slc a lo hi)) (ev Φ (.slc a lo hi)) := fun c hc => by
      rw [ev_slc]
      exact S_bind (S_opn (iha.ev c hc)) fun x v gx => S_bind (ihl.part c hc) fun l l' gl => S_bind (ihh.part c hc) fun h h' gh => S_bind (S_rd gx) fun d y gd => S_lift fun r hr => by
        obtain ⟨q, h1, h2⟩ := slc_ok HC.O hr gd gl gh
        exact ⟨q, h1, h2⟩
    exact mkOk HC h rfl (by simp only [part]) (mkT HC h rfl (by simp only [tst])) (fun _ => rfl) (fun fr => by simp only [evIt]) rfl rfl rfl rfl rfl rfl
  | rev a ih =>
    have h : ∀ c, c.t0 + KMI ≤ T → Snd ρ c (AA.r ρ) (evA C (.rev a)) (ev Φ (.rev a)) := fun c hc => by
      rw [ev_rev]
      exact S_bind (S_opn (ih.ev c hc)) fun x v gx => S_bind (S_rd gx) fun d y gd => S_lift fun r hr => by
        obtain ⟨q, h1, h2⟩ := rv_ok HC.O hr gd
        exact ⟨q, h1, h2⟩
    exact mkOk HC h rfl (by simp only [part]) (mkT HC h rfl (by simp only [tst])) (fun _ => rfl) (fun fr => by simp only [evIt]) rfl rfl rfl rfl rfl rfl
  | nop =>
    exact ⟨fun c _ => fail_of rfl, fun c _ => by rw [part_nop]; exact S_ret (show ptR none none from trivial), fun c _ => fail_of rfl, fun c _ => fail_of rfl, fun c _ => fail_of rfl, fun c _ => fail_of rfl, fun c _ => fail_of rfl, fun c _ => fail_of rfl, fun c _ => fail_of rfl, fun c fr _ => sndI_fail (by cases fr <;> rfl)⟩
  | call f l ih =>
    have h : ∀ c, c.t0 + KMI ≤ T → Snd ρ c (AA.r ρ) (evA C (.call f l)) (ev Φ (.call f l)) := fun c hc => by
      rw [ev_call]
      exact S_bind (ih.evs c hc) fun xs vs gs => S_call HC hc gs
    exact mkOk HC h rfl (by simp only [part]) (mkT HC h rfl (by simp only [tst])) (fun _ => rfl) (fun fr => by simp only [evIt]) rfl rfl rfl rfl rfl rfl
  | blt b l ih =>
    have h : ∀ c, c.t0 + KMI ≤ T → Snd ρ c (AA.r ρ) (evA C (.blt b l)) (ev Φ (.blt b l)) := fun c hc => by
      rw [ev_blt]
      exact S_bind (S_bind (ih.evs c hc) fun xs vs gs => S_rds gs) fun as ds g => S_lift fun r hr => by
        obtain ⟨q, h1, h2⟩ := blt_ok HC.O hr g
        exact ⟨q, h1, h2⟩
    exact mkOk HC h rfl (by simp only [part]) (mkT HC h rfl (by simp only [tst])) (fun _ => rfl) (fun fr => by simp only [evIt]) rfl rfl rfl rfl rfl rfl
  | inst a t ih =>
    have h : ∀ c, c.t0 + KMI ≤ T → Snd ρ c (AA.r ρ) (evA C (.inst a t)) (ev Φ (.inst a t)) := fun c hc => by
      have e : ev Φ (.inst a t) = bnd (opn (ev Φ a)) fun x => bnd (rd x) fun d => lift (if instOk d then some (AV.val (.bool (instD t d))) else none) := by
        rw [ev_inst]
        congr 1; funext x; congr 1; funext d
        split <;> rfl
      rw [e]
      exact S_bind (S_opn (ih.ev c hc)) fun x v gx => S_bind (S_rd gx) fun d y gd => S_lift fun r hr => by
        split at hr
        · rename_i p hq
          cases hr
          obtain ⟨h1, h2⟩ := inst_ok HC.O hq gd
          refine ⟨.val (.bool (instD t y)), by rw [if_pos h1], _, rfl, fun e => ?_, fun e => ?_⟩
          · rw [e] at h2; exact h2
          · rw [e] at h2; exact h2
        · cases hr
    exact mkOk HC h rfl (by simp only [part]) (mkT HC h rfl (by simp only [tst])) (fun _ => rfl) (fun fr => by simp only [evIt]) rfl rfl rfl rfl rfl rfl
  | excIs i c =>
    have h : ∀ c', c'.t0 + KMI ≤ T → Snd ρ c' (AA.r ρ) (evA C (.excIs i c)) (ev Φ (.excIs i c)) := fun c' _ => fail_of rfl
    exact mkOk HC h rfl (by simp only [part]) (mkT HC h rfl (by simp only [tst])) (fun _ => rfl) (fun fr => by simp only [evIt]) rfl rfl rfl rfl rfl rfl
  | what i =>
    have h : ∀ c', c'.t0 + KMI ≤ T → Snd ρ c' (AA.r ρ) (evA C (.what i)) (ev Φ (.what i)) := fun c' _ => fail_of rfl
    exact mkOk HC h rfl (by simp only [part]) (mkT HC h rfl (by simp only [tst])) (fun _ => rfl) (fun fr => by simp only [evIt]) rfl rfl rfl rfl rfl rfl
  | meth m a l iha ihl =>
    have h : ∀ c, c.t0 + KMI ≤ T → Snd ρ c (AA.r ρ) (evA C (.meth m a l)) (ev Φ (.meth m a l)) := fun c hc => by
      rw [ev_meth]
      exact S_bind (S_opn (iha.ev c hc)) fun x v gx => S_bind (S_mok gx) fun _ _ _ => S_bind (ihl.evs c hc) fun xs vs gs => S_meth HC.O gx gs
    exact mkOk HC h rfl (by simp only [part]) (mkT HC h rfl (by simp only [tst])) (fun _ => rfl) (fun fr => by simp only [evIt]) rfl rfl rfl rfl rfl rfl
  | comp elt g it tests own ihe ihi iht =>
    have h : ∀ c, c.t0 + KMI ≤ T → Snd ρ c (AA.r ρ) (evA C (.comp elt g it tests own)) (ev Φ (.comp elt g it tests own)) := fun c hc σ s outs hr e => by
      have e : wb (evItA C false it) (fun src => compW C.O src own g (tstsA C tests) (vlW (evA C elt))) σ = some outs := e
      unfold wb at e
      cases h1 : evItA C false it σ with
      | none => rw [h1] at e; cases e
      | some o =>
        rw [h1] at e
        obtain ⟨src, s1, e1, p, σ1, hm, g1, g2, hr1⟩ := ihi.it c false hc σ s o hr h1
        obtain ⟨o2, e2, hsub⟩ := wcat_mem e hm
        obtain ⟨v, s2, e3, a, σ2, hm2, hg, hr2⟩ := S_comp HC.O hc (fun c' hc' => iht.tsts c' hc') (fun c' hc' => S_vl (ihe.ev c' hc')) hr1 g1 g2 e2
        refine ⟨v, s2, ?_, a, σ2, hsub _ hm2, hg, hr2⟩
        rw [ev_comp]
        unfold bnd
        rw [e1]
        exact e3
    exact mkOk HC h rfl (by simp only [part]) (mkT HC h rfl (by simp only [tst])) (fun _ => rfl) (fun fr => by simp only [evIt]) rfl rfl rfl rfl rfl rfl
  | told f b ih =>
    have h : ∀ c', c'.t0 + KMI ≤ T → Snd ρ c' (AA.r ρ) (evA C (.told f b)) (ev Φ (.told f b)) := fun c' _ => fail_of rfl
    exact mkOk HC h rfl (by simp only [part]) (mkT HC h rfl (by simp only [tst])) (fun _ => rfl) (fun fr => by simp only [evIt]) rfl rfl rfl rfl rfl rfl
  | range1 a ih =>
    refine ⟨fun c _ => fail_of rfl, fun c _ => fail_of rfl, fun c _ => fail_of rfl, fun c _ => fail_of rfl, fun c _ => fail_of rfl, fun c _ => fail_of rfl, fun c _ => fail_of rfl, fun c _ => fail_of rfl, fun c _ => fail_of rfl, fun c fr hc => ?_⟩
    have e : evIt Φ fr (.range1 a) = bnd (vl (ev Φ a)) fun d => (match d with
      | .int j => if rngOk j then ret (rangeD 0 j, []) else fail
      | _ => fail) := by
      simp only [evIt] <;> rfl
    rw [e]
    refine sndI_bind (S_vl (ih.ev c hc)) fun d x g => ?_
    cases hq : rngA (.int 0 0) d with
    | none => exact sndI_fail rfl
    | some p =>
      have hx : ∃ j, x = .int j := by
        unfold rngA at hq
        split at hq
        · rename_i e2
          obtain ⟨j, rfl, _⟩ := ints_ok e2 g
          exact ⟨j, rfl⟩
        · cases hq
      obtain ⟨j, rfl⟩ := hx
      obtain ⟨h1, h2, h3, h4⟩ := rngA_ok (c := c) hq (show A.g ρ (.int 0 0) (.int 0) from ⟨0, rfl, Int.le_refl _, Int.le_refl _⟩) g
      dsimp only
      rw [if_pos h2]
      rw [wlift_some]
      exact sndI_ret h3 h4
  | range2 a b iha ihb =>
    refine ⟨fun c _ => fail_of rfl, fun c _ => fail_of rfl, fun c _ => fail_of rfl, fun c _ => fail_of rfl, fun c _ => fail_of rfl, fun c _ => fail_of rfl, fun c _ => fail_of rfl, fun c _ => fail_of rfl, fun c _ => fail_of rfl, fun c fr hc => ?_⟩
    have e : evIt Φ fr (.range2 a b) = bnd (vl (ev Φ a)) fun d => bnd (vl (ev Φ b)) fun e => (match d, e with
      | .int i, .int j => if rngOk i && rngOk j then ret (rangeD i j, []) else fail
      | _, _ => fail) := by
      simp only [evIt] <;> rfl

    rw [e]
    refine sndI_bind (S_vl (iha.ev c hc)) fun d x g => sndI_bind (S_vl (ihb.ev c hc)) fun e y g' => ?_
    cases hq : rngA d e with
    | none => exact sndI_fail rfl
    | some p =>
      have hx : (∃ j, x = .int j) ∧ ∃ j, y = .int j := by
        unfold rngA at hq
        split at hq
        · rename_i e1 e2
          obtain ⟨j, rfl, _⟩ := ints_ok e1 g
          obtain ⟨k, rfl, _⟩ := ints_ok e2 g'
          exact ⟨⟨j, rfl⟩, k, rfl⟩
        · cases hq
      obtain ⟨⟨i, rfl⟩, j, rfl⟩ := hx
      obtain ⟨h1, h2, h3, h4⟩ := rngA_ok (c := c) hq g g'
      dsimp only
      rw [h1, h2]
      rw [wlift_some]
      exact sndI_ret h3 h4
  | enum a ih =>
    refine ⟨fun c _ => fail_of rfl, fun c _ => fail_of rfl, fun c _ => fail_of rfl, fun c _ => fail_of rfl, fun c _ => fail_of rfl, fun c _ => fail_of rfl, fun c _ => fail_of rfl, fun c _ => fail_of rfl, fun c _ => fail_of rfl, fun c fr hc => ?_⟩
    have hI : SndI ρ c (wb (itW fr (evA C a)) (srcW C.O)) (bnd (itA fr (ev Φ a)) srcOf) := sndI_bind (S_it (ih.ev c hc)) fun a v g => sndI_src HC.O g
    rw [it_enum]
    intro σ s outs hr e
    have e : wb (wb (itW fr (evA C a)) (srcW C.O)) (fun p => wlift (enumA C.O p)) σ = some outs := e
    unfold wb at e
    split at e
    · cases e
    · rename_i o h1
      obtain ⟨src, s1, e1, p, σ1, hm, g1, g2, hr1⟩ := hI σ s o hr h1
      obtain ⟨o2, e2, hsub⟩ := wcat_mem e hm
      unfold enumA at e2
      cases hl : p.1.len with
      | none => rw [hl] at e2; cases e2
      | some mn =>
        obtain ⟨m, n⟩ := mn
        rw [hl] at e2
        simp only [wlift_some] at e2
        cases e2
        have hl2 := len_ok hl g1
        obtain ⟨z1, z2⟩ := enumD_ok (P := A.g ρ (A.allJ C.O FU p.1)) (xs := src.1) (i := 0)
        refine ⟨(enumD 0 src.1, src.2), s1, ?_, _, _, hsub _ (List.mem_singleton.mpr rfl), ⟨by rw [z1]; omega, by rw [z1]; omega, fun d hd => ?_⟩, g2, hr1⟩
        · show (bnd (itA fr (ev Φ a)) srcOf s).bd _ = _
          rw [e1]
          rfl
        · obtain ⟨k, x, rfl, hk, hx⟩ := z2 (fun x m => allJ_ok HC.O g1 m) d hd
          exact ⟨_, rfl, .int k, [x], rfl, ⟨_, rfl, by omega, by omega⟩, x, [], rfl, hx, rfl⟩
  | zip a b iha ihb =>
    refine ⟨fun c _ => fail_of rfl, fun c _ => fail_of rfl, fun c _ => fail_of rfl, fun c _ => fail_of rfl, fun c _ => fail_of rfl, fun c _ => fail_of rfl, fun c _ => fail_of rfl, fun c _ => fail_of rfl, fun c _ => fail_of rfl, fun c fr hc => ?_⟩
    have e : evIt Φ fr (.zip a b) = bnd (itA fr (ev Φ a)) fun x => bnd (itA fr (ev Φ b)) fun y => bnd (rd x) fun d => bnd (rd y) fun e => lift (zipK x d y e) := by simp only [evIt]
    rw [e]
    refine sndI_bind (S_it (iha.ev c hc)) fun x v gx => sndI_bind (S_it (ihb.ev c hc)) fun y u gy => ?_
    cases hq : zipA C.O x y with
    | none => exact sndI_fail rfl
    | some p =>
      cases x with
      | val a' =>
        cases y with
        | val b' =>
          cases v with
          | val d =>
            cases u with
            | val e =>
              obtain ⟨l, h1, h2, h3⟩ := zip_ok HC.O hq gx gy
              have : (bnd (rd (AV.val d)) fun d' => bnd (rd (AV.val e)) fun e' => lift (zipK (.val d) d' (.val e) e')) = ret (l, []) := by
                funext s
                simp [h1]
              rw [this]
              rw [wlift_some]
              exact sndI_ret h2 h3
            | _ => exact gy.elim
          | _ => exact gx.elim
        | _ => cases hq
      | _ => cases hq
end
end AM.AI
set_option Elab.async false
set_option linter.all false
set_option maxRecDepth 100000
set_option maxHeartbeats 4000000
/-! AI13: the evaluator of shapes: statements, defs. -/
namespace AM.AI
open PySem
/-- what may come of a statement -/
inductive AO where
  | nx (σ : AE)
  | ret (b : Bool) (a : A) (σ : AE)
  | ct (σ : AE)
  | brk (σ : AE)
def fcAO {β : Type} : AO → (AO → β) → β
  | .nx σ, k => fc σ fun σ => k (.nx σ)
  | .ret b a σ, k => fcBool b fun b => fcA a fun a => fc σ fun σ => k (.ret b a σ)
  | .ct σ, k => fc σ fun σ => k (.ct σ)
  | .brk σ, k => fc σ fun σ => k (.brk σ)
instance : Fc AO := ⟨fcAO, fun x k => by
  cases x with
  | nx σ => exact fc_eq _ _
  | ret b a σ => exact (Fc.eq (α := Bool) _ _).trans ((fcA_eq _ _).trans (fc_eq _ _))
  | ct σ => exact fc_eq _ _
  | brk σ => exact fc_eq _ _⟩
def take1W : AA → W SL
  | .val a => wret (.val a)
  | .new l => wret (.own false l)
  | .bor i => wb (fzW (.bor i)) fun d => wret (.val d)
def retW : AA → W (Bool × A)
  | .val a => wret (false, a)
  | .new l => wret (true, l)
  | .bor i => fun σ => (match sa σ i with
    | .own false l => some [((true, l), σ.set i .no)]
    | .ref false l => some [((true, l), σ.set i .no)]
    | .val a => some [((false, a), σ)]
    | _ => none)
def setAllA : List Nat → List A → AE → Option AE
  | [], [], σ => some σ
  | i :: is, a :: as, σ => setAllA is as (σ.set i (.val a))
  | _, _, _ => none
/-- single numbers, single lengths apart -/
def splitV (v : SL) : List SL := match v with
  | .val (.int l h) => if h - l ≤ 64 then (List.range (h - l + 1).toNat).map fun k => .val (.int (l + (k : Nat)) (l + (k : Nat))) else [v]
  | .val (.tup (.rep a l h)) => if h - l ≤ 64 then (List.range (h + 1 - l)).map fun k => .val (.tup (.rep a (l + k) (l + k))) else [v]
  | .val (.lst (.rep a l h)) => if h - l ≤ 64 then (List.range (h + 1 - l)).map fun k => .val (.lst (.rep a (l + k) (l + k))) else [v]
  | .own b (.rep a l h) => if h - l ≤ 64 then (List.range (h + 1 - l)).map fun k => .own b (.rep a (l + k) (l + k)) else [v]
  | _ => [v]
def splitSt : List Nat → AE → List AE
  | [], σ => [σ]
  | i :: is, σ => (splitV (sa σ i)).flatMap fun v => splitSt is (σ.set i v)
def constOf : SL → Option Int
  | .val (.int l h) => if l = h then some l else none
  | .val (.tup (.rep _ l h)) => if l = h then some l else none
  | .val (.lst (.rep _ l h)) => if l = h then some l else none
  | .own _ (.rep _ l h) => if l = h then some l else none
  | _ => none
def sameKey (sp : List Nat) (σ τ : AE) : Bool := sp.all fun i => decide (constOf (sa σ i) = constOf (sa τ i))
def insN (O : Opq) (sp : List Nat) (σ : AE) : List AE → List AE
  | [] => [σ]
  | τ :: r => if sameKey sp σ τ then (match joinSt O σ τ with
    | some u => u :: r
    | none => τ :: insN O sp σ r) else τ :: insN O sp σ r
def mergeN (O : Opq) (sp : List Nat) : List AE → List AE
  | [] => []
  | σ :: r => insN O sp σ (mergeN O sp r)
def nxs : List AO → List AE
  | [] => []
  | .nx σ :: r => σ :: nxs r
  | _ :: r => nxs r
def rest : List AO → List AO
  | [] => []
  | .nx _ :: r => rest r
  | o :: r => o :: rest r
def bindO (B : AE → Option (List AO)) : List AE → Option (List AO)
  | [] => some []
  | σ :: r => match B σ with
    | none => none
    | some x => match bindO B r with
      | none => none
      | some y => some (x ++ y)
/-- states to go on with in a loop -/
def goOn : List AO → List AE
  | [] => []
  | .nx σ :: r => σ :: goOn r
  | .ct σ :: r => σ :: goOn r
  | _ :: r => goOn r
/-- ends of a loop -/
def offs : List AO → List AO
  | [] => []
  | .ret b a σ :: r => .ret b a σ :: offs r
  | .brk σ :: r => .nx σ :: offs r
  | _ :: r => offs r
def joinAll (O : Opq) : AE → List AE → Option AE
  | σ, [] => some σ
  | σ, τ :: r => match joinAll O σ r with
    | some u => joinSt O τ u
    | none => none
def unrA (O : Opq) (g : G) (B : AE → Option (List AO)) : Nat → A → AE → Option (List AO)
  | 0, l, σ => match A.len l with
    | some (_, hi) => if hi = 0 then some [.nx σ] else none
    | none => none
  | n + 1, l, σ => match A.len l with
    | none => none
    | some (lo, hi) => if hi = 0 then some [.nx σ] else match bindGA O g (l.nth 0) σ with
      | none => none
      | some σ1 => fc σ1 fun σ1 => match B σ1 with
        | none => none
        | some outs => fc outs fun outs => match goOn outs with
          | [] => some ((if lo = 0 then [.nx σ] else []) ++ offs outs)
          | τ :: r => match joinAll O τ r with
            | none => none
            | some J => fc J fun J => match unrA O g B n (l.drop 1) J with
              | none => none
              | some x => some ((if lo = 0 then [.nx σ] else []) ++ (offs outs ++ x))
def aoSt : AO → AE
  | .nx σ => σ
  | .ret _ _ σ => σ
  | .ct σ => σ
  | .brk σ => σ
def aoJar (k : Nat) : AO → AO
  | .nx σ => .nx (setJar k σ)
  | .ret b a σ => .ret b a (setJar k σ)
  | .ct σ => .ct (setJar k σ)
  | .brk σ => .brk (setJar k σ)
def fixA (O : Opq) (g : G) (B : AE → Option (List AO)) (l : A) (σ : AE) : Option (List AO) := match A.len l with
  | none => none
  | some (_, hi) => fc (jarK σ + hi * DD1) fun ks => fc (A.allJ O FU l) fun pa => match bindGA O g pa (setJar ks σ) with
    | none => none
    | some σ1 => fc σ1 fun σ1 => match B σ1 with
      | none => none
      | some outs => match joinAll O σ (goOn outs) with
        | none => none
        | some J0 => fc J0 fun J0 => fc (setJar ks J0) fun J1 => match bindGA O g pa J1 with
          | none => none
          | some σ2 => fc σ2 fun σ2 => match B σ2 with
            | none => none
            | some outs2 => fc outs2 fun outs2 => fc (maxK (outs2.map aoSt) - ks) fun δ =>
              if decide (δ ≤ DD1) && ((goOn outs2).all fun τ => leSt O δ τ J1) && leSt O 0 (setJar ks σ) J1 then
                some (.nx (setJar (jarK σ + hi * δ) J0) :: (offs outs2).map (aoJar (jarK σ + hi * δ)))
              else none
def forA (O : Opq) (g : G) (B : AE → Option (List AO)) (l : A) (σ : AE) : Option (List AO) := match A.len l with
  | none => none
  | some (_, hi) => if hi = 0 then some [.nx σ] else match fixA O g B l σ with
    | some x => some x
    | none => if hi ≤ 200 then unrA O g B hi l σ else none
def wmapO {α : Type} (f : α → AE → Option (List AO)) : List (α × AE) → Option (List AO)
  | [] => some []
  | p :: r => match f p.1 p.2 with
    | none => none
    | some x => match wmapO f r with
      | none => none
      | some y => some (x ++ y)
def wso {α : Type} (w : W α) (f : α → AE → Option (List AO)) (σ : AE) : Option (List AO) := match w σ with
  | none => none
  | some outs => wmapO f outs
def exA (C : Cfg) : S → AE → Option (List AO)
  | .nil => fun σ => some [.nx σ]
  | .seq a r => fun σ => (match exA C a σ with
    | none => none
    | some outs => fc outs fun outs => fc (mergeN C.O C.sp (nxs outs)) fun ms => match bindO (exA C r) ms with
      | none => none
      | some x => some (rest outs ++ x))
  | .asg (.nm i) e => wso (wb (evA C e) take1W) fun v σ => some ((splitSt C.sp (σ.set i v)).map .nx)
  | .asg g e => wso (vlW (evA C e)) fun d σ => (match bindGA C.O g d σ with
    | some σ' => some ((splitSt C.sp σ').map .nx)
    | none => none)
  | .par is l => wso (wb (evsA C l) fzsW) fun ds σ => (match setAllA is ds σ with
    | some σ' => some ((splitSt C.sp σ').map .nx)
    | none => none)
  | .setIx i k e => wso (wb (vlW (evA C e)) fun d => wb (opnW (evA C (.var i))) fun o => wb (vlW (evA C k)) fun n => wret (d, o, n)) fun p σ => (match p.2.1, p.2.2.ints with
    | .bor j, some (x, y) => (match sa σ j with
      | .own b l => (match A.len l with
        | some (m, n) => if decide (0 ≤ x) && decide (y < m) then some [.nx (σ.set j (.own b (if x = y then A.put C.O l x.toNat p.1 else .rep (A.join C.O FU (A.allJ C.O FU l) p.1) m n)))] else none
        | none => none)
      | _ => none)
    | _, _ => none)
  | .aug i o e => wso (binW C.O o (evA C (.var i)) (evA C e)) fun v σ => (match v with
    | .val d => some [.nx (σ.set i (.val d))]
    | _ => none)
  | .expr e => wso (evA C e) fun _ σ => some [.nx σ]
  | .ret e => wso (wb (evA C e) retW) fun p σ => some [.ret p.1 p.2 σ]
  | .retN => fun σ => some [.ret false .non σ]
  | .ifs t a b => wso (tstA C t) fun k σ => if k then exA C a σ else exA C b σ
  | .forr g it b => wso (evItA C true it) fun p σ => (match p.2 with
    | none => forA C.O g (exA C b) p.1 σ
    | some _ => none)
  | .pass => fun σ => some [.nx σ]
  | .brk => fun σ => some [.brk σ]
  | .cont => fun σ => some [.ct σ]
  | _ => fun _ => none
def slotsA : List AArg → List SL
  | [] => []
  | .val a :: r => .val a :: slotsA r
  | .jar :: r => .jar true 0 :: slotsA r
  | .io l :: r => .ref true l :: slotsA r
def okIos (k : Nat) : List AArg → AE → Bool
  | [], _ => true
  | .val _ :: r, _ :: σ => okIos k r σ
  | .jar :: r, .jar true k' :: σ => decide (k' ≤ k) && okIos k r σ
  | .io _ :: r, .ref true _ :: σ => okIos k r σ
  | _, _ => false
def okOut (O : Opq) (args : List AArg) (r : Bool × A × Nat) : AO → Bool
  | .nx σ => !r.1 && A.le O FU .non r.2.1 && okIos r.2.2 args σ
  | .ret b a σ => (b == r.1) && (if b then A.leL O FU a r.2.1 else A.le O FU a r.2.1) && okIos r.2.2 args σ
  | _ => false
def defOut (C : Cfg) (fd : FDef) (args : List AArg) : Option (List AO) := exA C fd.body (slotsA args ++ List.replicate (fd.ns - args.length) .no)
def defOk (C : Cfg) (fd : FDef) (args : List AArg) (r : Bool × A × Nat) : Bool := decide (args.length = fd.np) && (match defOut C fd args with
  | some outs => outs.all (okOut C.O args r)
  | none => false)
end AM.AI
set_option Elab.async false
set_option linter.all false
set_option maxRecDepth 100000
set_option maxHeartbeats 4000000
/-! AI14: statements, defs: sound. -/
namespace AM.AI
open PySem
section
variable {ρ : Nat → PyData → Prop} {C : Cfg} {Φ : Calls} {T : Int}
def oR (ρ : Nat → PyData → Prop) (c : Ctx) : AO → SO → Prop
  | .nx σ, .nx s => rel ρ c σ s
  | .ret b a σ, .ret v s => rvR ρ b a v ∧ rel ρ c σ s
  | .ct σ, .ct s => rel ρ c σ s
  | .brk σ, .brk s => rel ρ c σ s
  | _, _ => False
theorem wmapO_mem {α : Type} {f : α → AE → Option (List AO)} : ∀ {l : List (α × AE)} {outs : List AO} {a : α} {σ : AE}, wmapO f l = some outs → (a, σ) ∈ l → ∃ x, f a σ = some x ∧ ∀ o ∈ x, o ∈ outs
  | [], _, _, _, _, m => by cases m
  | p :: r, outs, a, σ, e, m => by
    unfold wmapO at e
    cases h1 : f p.1 p.2 with
    | none => rw [h1] at e; cases e
    | some x =>
      cases h2 : wmapO f r with
      | none => rw [h1, h2] at e; cases e
      | some y =>
        rw [h1, h2] at e
        cases e
        rcases List.mem_cons.mp m with rfl | m
        · exact ⟨x, h1, fun q hq => List.mem_append_left _ hq⟩
        · obtain ⟨o, h3, h4⟩ := wmapO_mem h2 m
          exact ⟨o, h3, fun q hq => List.mem_append_right _ (h4 q hq)⟩
theorem wso_ok {α β : Type} {c : Ctx} {R : α → β → Prop} {w : W α} {m : M β} {f : α → AE → Option (List AO)} {k : β → AS → SO} (h : Snd ρ c R w m) {σ : AE} {s : AS} {outs : List AO} (hr : rel ρ c σ s) (e : wso w f σ = some outs)
    (hk : ∀ a b σ' s' x, R a b → rel ρ c σ' s' → f a σ' = some x → ∃ o ∈ x, oR ρ c o (k b s')) : ∃ o ∈ outs, oR ρ c o ((m s).so k) := by
  unfold wso at e
  cases h1 : w σ with
  | none => rw [h1] at e; cases e
  | some os =>
    rw [h1] at e
    obtain ⟨b, s', e1, a, σ', hm, hab, hr'⟩ := h σ s os hr h1
    obtain ⟨x, e2, hsub⟩ := wmapO_mem e hm
    obtain ⟨o, ho, hR⟩ := hk a b σ' s' x hab hr' e2
    exact ⟨o, hsub o ho, by rw [e1]; exact hR⟩
/-! #### joins of states -/
theorem joinSl_ok {O : Opq} (HO : OpqOk O ρ) {c : Ctx} {i : Nat} {x y : SL} {o : Option SV} (h : slR ρ c i x o ∨ slR ρ c i y o) : slR ρ c i (joinSl O x y) o := by
  unfold joinSl
  split
  · rcases h with h | h <;> exact h
  · rcases h with ⟨d, e, g⟩ | ⟨d, e, g⟩
    · exact ⟨d, e, (join_ok HO FU).1 _ _ d (.inl g)⟩
    · exact ⟨d, e, (join_ok HO FU).1 _ _ d (.inr g)⟩
  · split
    · rename_i hb
      subst hb
      rcases h with ⟨d, e, g⟩ | ⟨d, e, g⟩
      · exact ⟨d, e, (join_ok HO FU).2.1 _ _ d (.inl g)⟩
      · exact ⟨d, e, (join_ok HO FU).2.1 _ _ d (.inr g)⟩
    · trivial
  · split
    · rename_i hb
      subst hb
      rcases h with ⟨e, g⟩ | ⟨e, g⟩
      · exact ⟨e, (join_ok HO FU).2.1 _ _ _ (.inl g)⟩
      · exact ⟨e, (join_ok HO FU).2.1 _ _ _ (.inr g)⟩
    · trivial
  · split
    · rename_i hb
      subst hb
      rcases h with ⟨e, g⟩ | ⟨d, e, g⟩
      · exact ⟨_, e, (join_ok HO FU).2.1 _ _ _ (.inl g)⟩
      · exact ⟨_, e, (join_ok HO FU).2.1 _ _ _ (.inr g)⟩
    · trivial
  · split
    · rename_i hb
      subst hb
      rcases h with ⟨d, e, g⟩ | ⟨e, g⟩
      · exact ⟨_, e, (join_ok HO FU).2.1 _ _ _ (.inl g)⟩
      · exact ⟨_, e, (join_ok HO FU).2.1 _ _ _ (.inr g)⟩
    · trivial
  · split
    · rename_i hb
      subst hb
      rcases h with ⟨d, e, g⟩ | ⟨d, e, g⟩
      · exact ⟨d, e, g.mono (by omega)⟩
      · exact ⟨d, e, g.mono (by omega)⟩
    · trivial
  · trivial
theorem joinSt_at {O : Opq} : ∀ {σ τ u : AE}, joinSt O σ τ = some u → σ.length = u.length ∧ τ.length = u.length ∧ ∀ i, i < u.length → sa u i = joinSl O (sa σ i) (sa τ i)
  | [], [], u, h => by
    cases h
    exact ⟨rfl, rfl, fun i hi => by simp at hi⟩
  | a :: σ, b :: τ, u, h => by
    unfold joinSt at h
    cases h1 : joinSt O σ τ with
    | none => rw [h1] at h; cases h
    | some x =>
      rw [h1] at h
      cases h
      obtain ⟨h2, h3, h4⟩ := joinSt_at h1
      refine ⟨by simp [h2], by simp [h3], fun i hi => ?_⟩
      cases i with
      | zero => rfl
      | succ i => exact h4 i (by simpa using hi)
  | [], _ :: _, _, h => by simp [joinSt] at h
  | _ :: _, [], _, h => by simp [joinSt] at h
theorem sl_out {s : AS} {i : Nat} (h : s.length ≤ i) : sl s i = none := by
  unfold sl
  rw [List.getElem?_eq_none h]
  rfl
theorem sa_out {s : AE} {i : Nat} (h : s.length ≤ i) : sa s i = .no := by
  unfold sa
  rw [List.getElem?_eq_none h]
  rfl
theorem joinSt_ok {O : Opq} (HO : OpqOk O ρ) {c : Ctx} {σ τ u : AE} {s : AS} (h : joinSt O σ τ = some u) (g : rel ρ c σ s ∨ rel ρ c τ s) : rel ρ c u s := by
  obtain ⟨h1, h2, h3⟩ := joinSt_at h
  have hl : s.length = u.length := by rcases g with g | g <;> rw [g.len] <;> assumption
  refine ⟨hl, fun i => ?_⟩
  rcases Nat.lt_or_ge i u.length with hi | hi
  · rw [h3 i hi]
    rcases g with g | g
    · exact joinSl_ok HO (.inl (g.at_ i))
    · exact joinSl_ok HO (.inr (g.at_ i))
  · rw [sa_out hi, sl_out (by omega)]
    rfl
theorem joinAll_ok {O : Opq} (HO : OpqOk O ρ) {c : Ctx} : ∀ {l : List AE} {σ u : AE} {s : AS}, joinAll O σ l = some u → (rel ρ c σ s ∨ ∃ τ ∈ l, rel ρ c τ s) → rel ρ c u s
  | [], σ, u, s, h, g => by
    cases h
    rcases g with g | ⟨τ, m, _⟩
    · exact g
    · cases m
  | τ :: r, σ, u, s, h, g => by
    unfold joinAll at h
    cases h1 : joinAll O σ r with
    | none => rw [h1] at h; cases h
    | some v =>
      rw [h1] at h
      refine joinSt_ok HO h ?_
      rcases g with g | ⟨τ', m, g⟩
      · exact .inr (joinAll_ok HO h1 (.inl g))
      · rcases List.mem_cons.mp m with rfl | m
        · exact .inl g
        · exact .inr (joinAll_ok HO h1 (.inr ⟨τ', m, g⟩))
theorem insN_ok {O : Opq} (HO : OpqOk O ρ) {c : Ctx} {sp : List Nat} {s : AS} {σ : AE} : ∀ {l : List AE}, (rel ρ c σ s ∨ ∃ τ ∈ l, rel ρ c τ s) → ∃ u ∈ insN O sp σ l, rel ρ c u s
  | [], g => by
    rcases g with g | ⟨τ, m, _⟩
    · exact ⟨σ, by simp [insN], g⟩
    · cases m
  | τ :: r, g => by
    unfold insN
    have skip : ∃ u ∈ τ :: insN O sp σ r, rel ρ c u s := by
      rcases g with g | ⟨τ', m, g⟩
      · obtain ⟨u, hu, hr⟩ := insN_ok HO (sp := sp) (l := r) (.inl g)
        exact ⟨u, List.mem_cons_of_mem _ hu, hr⟩
      · rcases List.mem_cons.mp m with rfl | m
        · exact ⟨_, List.mem_cons_self .., g⟩
        · obtain ⟨u, hu, hr⟩ := insN_ok HO (sp := sp) (l := r) (.inr ⟨τ', m, g⟩)
          exact ⟨u, List.mem_cons_of_mem _ hu, hr⟩
    split
    · split
      · rename_i u hu
        rcases g with g | ⟨τ', m, g⟩
        · exact ⟨u, List.mem_cons_self .., joinSt_ok HO hu (.inl g)⟩
        · rcases List.mem_cons.mp m with rfl | m
          · exact ⟨u, List.mem_cons_self .., joinSt_ok HO hu (.inr g)⟩
          · exact ⟨τ', List.mem_cons_of_mem _ m, g⟩
      · exact skip
    · exact skip
theorem mergeN_ok {O : Opq} (HO : OpqOk O ρ) {c : Ctx} {sp : List Nat} {s : AS} : ∀ {l : List AE} {σ : AE}, σ ∈ l → rel ρ c σ s → ∃ u ∈ mergeN O sp l, rel ρ c u s
  | [], _, m, _ => by cases m
  | τ :: r, σ, m, g => by
    unfold mergeN
    rcases List.mem_cons.mp m with rfl | m
    · exact insN_ok HO (.inl g)
    · exact insN_ok HO (.inr (mergeN_ok HO m g))
theorem nxs_mem : ∀ {l : List AO} {σ : AE}, AO.nx σ ∈ l → σ ∈ nxs l
  | [], _, m => by cases m
  | o :: r, σ, m => by
    rcases List.mem_cons.mp m with rfl | m
    · exact List.mem_cons_self ..
    · have := nxs_mem m
      cases o <;> simp only [nxs] <;> first | exact this | exact List.mem_cons_of_mem _ this
theorem rest_mem : ∀ {l : List AO} {o : AO}, o ∈ l → (∀ σ, o ≠ .nx σ) → o ∈ rest l
  | [], _, m, _ => by cases m
  | p :: r, o, m, h => by
    rcases List.mem_cons.mp m with rfl | m
    · cases o with
      | nx σ => exact absurd rfl (h σ)
      | _ => exact List.mem_cons_self ..
    · have := rest_mem m h
      cases p <;> simp only [rest] <;> first | exact this | exact List.mem_cons_of_mem _ this
theorem bindO_mem {B : AE → Option (List AO)} : ∀ {l : List AE} {x : List AO} {σ : AE}, bindO B l = some x → σ ∈ l → ∃ y, B σ = some y ∧ ∀ o ∈ y, o ∈ x
  | [], _, _, _, m => by cases m
  | τ :: r, x, σ, e, m => by
    unfold bindO at e
    cases h1 : B τ with
    | none => rw [h1] at e; cases e
    | some y =>
      cases h2 : bindO B r with
      | none => rw [h1, h2] at e; cases e
      | some z =>
        rw [h1, h2] at e
        cases e
        rcases List.mem_cons.mp m with rfl | m
        · exact ⟨y, h1, fun o ho => List.mem_append_left _ ho⟩
        · obtain ⟨w, h3, h4⟩ := bindO_mem h2 m
          exact ⟨w, h3, fun o ho => List.mem_append_right _ (h4 o ho)⟩
/-! #### loops -/
theorem goOn_nx : ∀ {l : List AO} {σ : AE}, AO.nx σ ∈ l → σ ∈ goOn l
  | [], _, m => by cases m
  | o :: r, σ, m => by
    rcases List.mem_cons.mp m with rfl | m
    · exact List.mem_cons_self ..
    · have := goOn_nx m
      cases o <;> simp only [goOn] <;> first | exact this | exact List.mem_cons_of_mem _ this
theorem goOn_ct : ∀ {l : List AO} {σ : AE}, AO.ct σ ∈ l → σ ∈ goOn l
  | [], _, m => by cases m
  | o :: r, σ, m => by
    rcases List.mem_cons.mp m with rfl | m
    · exact List.mem_cons_self ..
    · have := goOn_ct m
      cases o <;> simp only [goOn] <;> first | exact this | exact List.mem_cons_of_mem _ this
theorem offs_ret : ∀ {l : List AO} {b : Bool} {a : A} {σ : AE}, AO.ret b a σ ∈ l → AO.ret b a σ ∈ offs l
  | [], _, _, _, m => by cases m
  | o :: r, b, a, σ, m => by
    rcases List.mem_cons.mp m with rfl | m
    · exact List.mem_cons_self ..
    · have := offs_ret m
      cases o <;> simp only [offs] <;> first | exact this | exact List.mem_cons_of_mem _ this
theorem offs_brk : ∀ {l : List AO} {σ : AE}, AO.brk σ ∈ l → AO.nx σ ∈ offs l
  | [], _, m => by cases m
  | o :: r, σ, m => by
    rcases List.mem_cons.mp m with rfl | m
    · exact List.mem_cons_self ..
    · have := offs_brk m
      cases o <;> simp only [offs] <;> first | exact this | exact List.mem_cons_of_mem _ this
/-- one turn -/
theorem turn_ok {c : Ctx} {outs : List AO} {r : SO} (h : ∃ o ∈ outs, oR ρ c o r) : (∃ s τ, (r = .nx s ∨ r = .ct s) ∧ τ ∈ goOn outs ∧ rel ρ c τ s) ∨ (∃ s τ, r = .brk s ∧ .nx τ ∈ offs outs ∧ AO.brk τ ∈ outs ∧ rel ρ c τ s) ∨ (∃ v s b a τ, r = .ret v s ∧ AO.ret b a τ ∈ offs outs ∧ AO.ret b a τ ∈ outs ∧ rvR ρ b a v ∧ rel ρ c τ s) := by
  obtain ⟨o, ho, hR⟩ := h
  cases o with
  | nx σ => cases r with
    | nx s => exact .inl ⟨s, σ, .inl rfl, goOn_nx ho, hR⟩
    | _ => exact hR.elim
  | ct σ => cases r with
    | ct s => exact .inl ⟨s, σ, .inr rfl, goOn_ct ho, hR⟩
    | _ => exact hR.elim
  | brk σ => cases r with
    | brk s => exact .inr (.inl ⟨s, σ, rfl, offs_brk ho, ho, hR⟩)
    | _ => exact hR.elim
  | ret b a σ => cases r with
    | ret v s => exact .inr (.inr ⟨v, s, b, a, σ, rfl, offs_ret ho, ho, hR.1, hR.2⟩)
    | _ => exact hR.elim
theorem forL_go {g : G} {b : AS → SO} {d : PyData} {ds : List PyData} {s s1 s2 : AS} (h1 : bindG g d s = some s1) (h2 : b s1 = .nx s2 ∨ b s1 = .ct s2) : forL g b (d :: ds) s = forL g b ds s2 := by
  rcases h2 with h2 | h2 <;> simp [forL, h1, h2]
theorem unrA_ok {O : Opq} (HO : OpqOk O ρ) {c : Ctx} {g : G} {B : AE → Option (List AO)} {b : AS → SO} (hB : ∀ σ s outs, rel ρ c σ s → B σ = some outs → ∃ o ∈ outs, oR ρ c o (b s)) :
    ∀ (n : Nat) (l : A) (σ : AE) (ds : List PyData) (s : AS) (outs : List AO), l.gl ρ ds → rel ρ c σ s → unrA O g B n l σ = some outs → ∃ o ∈ outs, oR ρ c o (forL g b ds s) := by
  intro n
  induction n with
  | zero =>
    intro l σ ds s outs hl hr e
    unfold unrA at e
    split at e
    · rename_i lo hi hn
      split at e
      · cases e
        have := len_ok hn hl
        obtain rfl : ds = [] := List.eq_nil_of_length_eq_zero (by omega)
        exact ⟨_, List.mem_singleton.mpr rfl, hr⟩
      · cases e
    · cases e
  | succ n ih =>
    intro l σ ds s outs hl hr e
    unfold unrA at e
    simp only [fc_eq] at e
    split at e
    · cases e
    · rename_i lo hi hn
      have hlen := len_ok hn hl
      split at e
      · cases e
        obtain rfl : ds = [] := List.eq_nil_of_length_eq_zero (by omega)
        exact ⟨_, List.mem_singleton.mpr rfl, hr⟩
      · split at e
        · cases e
        · rename_i σ1 hb
          split at e
          · cases e
          · rename_i os hos
            cases ds with
            | nil =>
              have h0 : lo = 0 := by simp at hlen; omega
              split at e
              · cases e
                exact ⟨.nx σ, by simp [h0], hr⟩
              · split at e
                · cases e
                · split at e
                  · cases e
                  · cases e
                    exact ⟨.nx σ, by simp [h0], hr⟩
            | cons d ds =>
              obtain ⟨s1, h1, hr1⟩ := (bindGA_ok HO g).1 hb (nth_ok hl (i := 0) rfl) hr
              have ht := turn_ok (hB σ1 s1 os hr1 hos)
              have hoff : ∀ o ∈ offs os, o ∈ outs := by
                intro o ho
                split at e
                · cases e
                  exact List.mem_append_right _ ho
                · split at e
                  · cases e
                  · split at e
                    · cases e
                    · cases e
                      exact List.mem_append_right _ (List.mem_append_left _ ho)
              rcases ht with ⟨s2, τ, h2, hτ, hr2⟩ | ⟨s2, τ, h2, hτ, _, hr2⟩ | ⟨v, s2, b', a, τ, h2, hτ, _, hv, hr2⟩
              · split at e
                · rename_i hg
                  rw [hg] at hτ
                  cases hτ
                · rename_i τ0 r hg
                  split at e
                  · cases e
                  · rename_i J hJ
                    split at e
                    · cases e
                    · rename_i x hx
                      have hrJ : rel ρ c J s2 := by
                        refine joinAll_ok HO hJ ?_
                        rw [hg] at hτ
                        rcases List.mem_cons.mp hτ with rfl | hτ
                        · exact .inl hr2
                        · exact .inr ⟨_, hτ, hr2⟩
                      obtain ⟨o, ho, hR⟩ := ih (l.drop 1) J ds s2 x (drop_ok (n := 1) hl) hrJ hx
                      cases e
                      exact ⟨o, List.mem_append_right _ (List.mem_append_right _ ho), by rw [forL_go h1 h2]; exact hR⟩
              · exact ⟨_, hoff _ hτ, by simp [forL, h1, h2]; exact hr2⟩
              · exact ⟨_, hoff _ hτ, by simp [forL, h1, h2]; exact ⟨hv, hr2⟩⟩
theorem maxK_le : ∀ {l : List AE} {σ : AE}, σ ∈ l → jarK σ ≤ maxK l
  | [], _, m => by cases m
  | τ :: r, σ, m => by
    unfold maxK
    rcases List.mem_cons.mp m with rfl | m
    · omega
    · have := maxK_le m
      omega
theorem rel_shift {c c' : Ctx} {σ : AE} {s : AS} {K : Nat} (h : rel ρ c' σ s) (hth : c'.th = c.th) (hk : ∀ k, k ≤ jarK σ → c'.t0 + (k : Nat) ≤ c.t0 + (K : Nat)) : rel ρ c (setJar K σ) s := by
  refine ⟨by rw [len_setJar]; exact h.len, fun i => ?_⟩
  rw [sa_map]
  have hi := h.at_ i
  cases hx : sa σ i with
  | no => rw [hx] at hi; exact hi
  | top => trivial
  | val a => rw [hx] at hi; exact hi
  | own b l => rw [hx] at hi; exact hi
  | jar b k =>
    rw [hx] at hi
    obtain ⟨xs, e, g⟩ := hi
    exact ⟨xs, e, g.mono (hk k (jarK_le hx))⟩
  | ref b l =>
    rw [hx] at hi
    show slR ρ c i (.ref b l) _
    unfold slR
    rw [← hth]
    exact hi
theorem jarK_set {k : Nat} : ∀ {σ : AE}, jarK (setJar k σ) ≤ k
  | [] => Nat.zero_le _
  | x :: σ => by
    have := jarK_set (k := k) (σ := σ)
    unfold setJar at *
    rw [List.map_cons]
    cases x <;> simp only [setJ1, jarK] <;> omega
theorem fixA_ok {O : Opq} (HO : OpqOk O ρ) {c : Ctx} (hc : c.t0 + KMI ≤ T) {g : G} {B : AE → Option (List AO)} {b : AS → SO} (hB : ∀ c', c'.t0 + KMI ≤ T → ∀ σ s outs, rel ρ c' σ s → B σ = some outs → ∃ o ∈ outs, oR ρ c' o (b s)) {l : A} {σ : AE} {ds : List PyData} {s : AS} {outs : List AO} (hl : l.gl ρ ds) (hr : rel ρ c σ s) (e : fixA O g B l σ = some outs) : ∃ o ∈ outs, oR ρ c o (forL g b ds s) := by
  unfold fixA at e
  simp only [fc_eq] at e
  split at e
  · cases e
  · rename_i lo hi hn
    have hlen := len_ok hn hl
    split at e
    · cases e
    · split at e
      · cases e
      · split at e
        · cases e
        · rename_i J0 hJ0
          split at e
          · cases e
          · rename_i σ2 hb
            split at e
            · cases e
            · rename_i os hos
              generalize hδ : maxK (os.map aoSt) - (jarK σ + hi * DD1) = δ at e
              split at e
              · rename_i hfin
                simp only [Bool.and_eq_true, decide_eq_true_eq, List.all_eq_true] at hfin
                obtain ⟨⟨hδ1, hall⟩, h0⟩ := hfin
                cases e
                let cj : Nat → Ctx := fun j => ⟨c.t0 + (jarK σ : Nat) + (j * δ : Nat) - ((jarK σ + hi * DD1 : Nat) : Int), c.th⟩
                have hcj : ∀ j, j ≤ hi → (cj j).t0 ≤ c.t0 := by
                  intro j hj
                  have : j * δ ≤ hi * DD1 := Nat.mul_le_mul hj hδ1
                  show c.t0 + (jarK σ : Nat) + (j * δ : Nat) - ((jarK σ + hi * DD1 : Nat) : Int) ≤ c.t0
                  omega
                have r0 : rel ρ (cj 0) (setJar (jarK σ + hi * DD1) J0) s := by
                  refine leSt_ok HO (c := cj 0) h0 (by simp) rfl ?_
                  refine rel_shift hr rfl fun k hk => ?_
                  show c.t0 + (k : Nat) ≤ c.t0 + (jarK σ : Nat) + (0 * δ : Nat) - ((jarK σ + hi * DD1 : Nat) : Int) + ((jarK σ + hi * DD1 : Nat) : Int)
                  rw [Nat.zero_mul]
                  omega
                have off : ∀ j τ u, j + 1 ≤ hi → τ ∈ os.map aoSt → rel ρ (cj j) τ u → rel ρ c (setJar (jarK σ + hi * δ) τ) u := by
                  intro j τ u hj hτ h
                  refine rel_shift h rfl fun k hk => ?_
                  have := maxK_le hτ
                  have h2 : (j + 1) * δ ≤ hi * δ := Nat.mul_le_mul_right _ hj
                  have h3 : (j + 1) * δ = j * δ + δ := by rw [Nat.add_mul, Nat.one_mul]
                  show c.t0 + (jarK σ : Nat) + (j * δ : Nat) - ((jarK σ + hi * DD1 : Nat) : Int) + (k : Nat) ≤ c.t0 + ((jarK σ + hi * δ : Nat) : Int)
                  omega
                have loop : ∀ (ds : List PyData) (j : Nat) (u : AS), (∀ d ∈ ds, (A.allJ O FU l).g ρ d) → j + ds.length ≤ hi → rel ρ (cj j) (setJar (jarK σ + hi * DD1) J0) u →
                    ∃ o ∈ (AO.nx (setJar (jarK σ + hi * δ) J0) :: (offs os).map (aoJar (jarK σ + hi * δ))), oR ρ c o (forL g b ds u) := by
                  intro ds
                  induction ds with
                  | nil =>
                    intro j u _ hj hu
                    refine ⟨_, List.mem_cons_self .., ?_⟩
                    have := rel_shift (K := jarK σ + hi * δ) (c := c) hu rfl (fun k hk => by
                      have := jarK_set (k := jarK σ + hi * DD1) (σ := J0)
                      have h2 : j * δ ≤ hi * δ := Nat.mul_le_mul_right _ (by simpa using hj)
                      show c.t0 + (jarK σ : Nat) + (j * δ : Nat) - ((jarK σ + hi * DD1 : Nat) : Int) + (k : Nat) ≤ c.t0 + ((jarK σ + hi * δ : Nat) : Int)
                      omega)
                    have e2 : setJar (jarK σ + hi * δ) (setJar (jarK σ + hi * DD1) J0) = setJar (jarK σ + hi * δ) J0 := by
                      unfold setJar
                      rw [List.map_map]
                      congr 1
                      funext x
                      cases x <;> rfl
                    rw [e2] at this
                    exact this
                  | cons d ds ih =>
                    intro j u hds hj hu
                    simp only [List.length_cons] at hj
                    obtain ⟨u1, h1, hu1⟩ := (bindGA_ok HO g).1 hb (hds d (List.mem_cons_self ..)) hu
                    have hj' : (cj j).t0 + KMI ≤ T := Int.le_trans (Int.add_le_add_right (hcj j (by omega)) _) hc
                    rcases turn_ok (hB (cj j) hj' σ2 u1 os hu1 hos) with ⟨s2, τ, h2, hτ, hr2⟩ | ⟨s2, τ, h2, hτ, hm, hr2⟩ | ⟨v, s2, b', a, τ, h2, hτ, hm, hv, hr2⟩
                    · have hnext : rel ρ (cj (j + 1)) (setJar (jarK σ + hi * DD1) J0) s2 := by
                        refine leSt_ok HO (c := cj j) (hall τ hτ) ?_ rfl hr2
                        show c.t0 + (jarK σ : Nat) + (j * δ : Nat) - ((jarK σ + hi * DD1 : Nat) : Int) + (δ : Nat) ≤ c.t0 + (jarK σ : Nat) + ((j + 1) * δ : Nat) - ((jarK σ + hi * DD1 : Nat) : Int)
                        have : (j + 1) * δ = j * δ + δ := by rw [Nat.add_mul, Nat.one_mul]
                        rw [this]
                        omega
                      rw [forL_go h1 h2]
                      exact ih (j + 1) s2 (fun d m => hds d (List.mem_cons_of_mem _ m)) (by omega) hnext
                    · refine ⟨.nx (setJar (jarK σ + hi * δ) τ), List.mem_cons_of_mem _ (List.mem_map.mpr ⟨_, hτ, rfl⟩), ?_⟩
                      have e3 : forL g b (d :: ds) u = .nx s2 := by simp [forL, h1, h2]
                      rw [e3]
                      exact off j τ s2 (by omega) (List.mem_map.mpr ⟨_, hm, rfl⟩) hr2
                    · refine ⟨.ret b' a (setJar (jarK σ + hi * δ) τ), List.mem_cons_of_mem _ (List.mem_map.mpr ⟨_, hτ, rfl⟩), ?_⟩
                      have e3 : forL g b (d :: ds) u = .ret v s2 := by simp [forL, h1, h2]
                      rw [e3]
                      exact ⟨hv, off j τ s2 (by omega) (List.mem_map.mpr ⟨_, hm, rfl⟩) hr2⟩
                exact loop ds 0 s (fun d m => allJ_ok HO hl m) (by omega) r0
              · cases e
theorem forA_ok {O : Opq} (HO : OpqOk O ρ) {c : Ctx} (hc : c.t0 + KMI ≤ T) {g : G} {B : AE → Option (List AO)} {b : AS → SO} (hB : ∀ c', c'.t0 + KMI ≤ T → ∀ σ s outs, rel ρ c' σ s → B σ = some outs → ∃ o ∈ outs, oR ρ c' o (b s)) {l : A} {σ : AE} {ds : List PyData} {s : AS} {outs : List AO} (hl : l.gl ρ ds) (hr : rel ρ c σ s) (e : forA O g B l σ = some outs) : ∃ o ∈ outs, oR ρ c o (forL g b ds s) := by
  unfold forA at e
  split at e
  · cases e
  · rename_i lo hi hn
    have hlen := len_ok hn hl
    split at e
    · cases e
      obtain rfl : ds = [] := List.eq_nil_of_length_eq_zero (by omega)
      exact ⟨_, List.mem_singleton.mpr rfl, hr⟩
    · split at e
      · rename_i x hx
        cases e
        exact fixA_ok HO hc hB hl hr hx
      · split at e
        · exact unrA_ok HO (hB c hc) _ l σ ds s outs hl hr e
        · cases e
end
end AM.AI
set_option Elab.async false
set_option linter.all false
set_option maxRecDepth 100000
set_option maxHeartbeats 4000000
/-! AI15: statements, defs: sound, whole. -/
namespace AM.AI
open PySem
section
variable {ρ : Nat → PyData → Prop} {C : Cfg} {Φ : Calls} {T : Int}
/-- a slot's new content -/
def svR (ρ : Nat → PyData → Prop) : SL → SV → Prop
  | .val a, .val d => a.g ρ d
  | .own b l, .own b' xs => b = b' ∧ l.gl ρ xs
  | _, _ => False
theorem svR_sl {c : Ctx} {i : Nat} {v : SL} {w : SV} (h : svR ρ v w) : slR ρ c i v (some w) := by
  cases v with
  | val a => cases w with
    | val d => exact ⟨d, rfl, h⟩
    | _ => exact h.elim
  | own b l => cases w with
    | own b' xs =>
      obtain ⟨rfl, h⟩ := h
      exact ⟨xs, rfl, h⟩
    | _ => exact h.elim
  | _ => exact h.elim
theorem S_take {c : Ctx} {a : AA} {v : AV} (h : a.r ρ v) : Snd ρ c (svR ρ) (take1W a) (take1 v) := by
  cases a with
  | val a => cases v with
    | val d => exact S_ret (show svR ρ (.val a) (.val d) from h)
    | _ => exact h.elim
  | new l => cases v with
    | new xs => exact S_ret (show svR ρ (.own false l) (.own false xs) from ⟨rfl, h⟩)
    | _ => exact h.elim
  | bor i => cases v with
    | bor j => exact S_bind (S_fz h) fun d x g => S_ret (show svR ρ (.val d) (.val x) from g)
    | _ => exact h.elim
theorem S_retW {c : Ctx} {a : AA} {v : AV} (h : a.r ρ v) : Snd ρ c (fun p r => rvR ρ p.1 p.2 r) (retW a) (retA v) := by
  cases a with
  | val a => cases v with
    | val d => exact S_ret (show rvR ρ false a (.val d) from h)
    | _ => exact h.elim
  | new l => cases v with
    | new xs => exact S_ret (show rvR ρ true l (.new xs) from h)
    | _ => exact h.elim
  | bor i => cases v with
    | bor j =>
      have : i = j := h
      subst this
      intro σ s outs hr e
      have hs := hr.at_ i
      simp only [retW] at e
      rw [retA_bor]
      cases hq : sa σ i with
      | own b l =>
        rw [hq] at hs e
        cases b with
        | true => cases e
        | false =>
          cases e
          obtain ⟨xs, e1, g⟩ := hs
          rw [e1]
          exact ⟨_, _, rfl, _, _, List.mem_singleton.mpr rfl, g, rel_set hr rfl⟩
      | ref b l =>
        rw [hq] at hs e
        cases b with
        | true => cases e
        | false =>
          cases e
          obtain ⟨e1, g⟩ := hs
          rw [e1]
          exact ⟨_, _, rfl, _, _, List.mem_singleton.mpr rfl, g, rel_set hr rfl⟩
      | val a =>
        rw [hq] at hs e
        cases e
        obtain ⟨d, e1, g⟩ := hs
        rw [e1]
        exact ⟨_, _, rfl, _, _, List.mem_singleton.mpr rfl, g, hr⟩
      | _ => rw [hq] at e; cases e
    | _ => exact h.elim
theorem rep_split {a : A} {l h : Nat} {xs : List PyData} (g : A.gl ρ (.rep a l h) xs) : ∃ k ∈ List.range (h + 1 - l), A.gl ρ (.rep a (l + k) (l + k)) xs := by
  obtain ⟨g1, g2, g3⟩ := g
  exact ⟨xs.length - l, List.mem_range.mpr (by omega), by omega, by omega, g3⟩
theorem splitV_ok {c : Ctx} {i : Nat} {v : SL} {o : Option SV} (h : slR ρ c i v o) : ∃ u ∈ splitV v, slR ρ c i u o := by
  unfold splitV
  split
  · rename_i l hh
    split
    · obtain ⟨d, rfl, n, rfl, h1, h2⟩ := h
      refine ⟨.val (.int n n), List.mem_map.mpr ⟨(n - l).toNat, List.mem_range.mpr (by omega), ?_⟩, _, rfl, n, rfl, Int.le_refl _, Int.le_refl _⟩
      have : l + ((n - l).toNat : Int) = n := by omega
      rw [this]
    · exact ⟨_, List.mem_singleton.mpr rfl, h⟩
  · split
    · obtain ⟨d, rfl, xs, rfl, g⟩ := h
      obtain ⟨k, hk, g⟩ := rep_split g
      exact ⟨_, List.mem_map.mpr ⟨k, hk, rfl⟩, _, rfl, xs, rfl, g⟩
    · exact ⟨_, List.mem_singleton.mpr rfl, h⟩
  · split
    · obtain ⟨d, rfl, xs, rfl, g⟩ := h
      obtain ⟨k, hk, g⟩ := rep_split g
      exact ⟨_, List.mem_map.mpr ⟨k, hk, rfl⟩, _, rfl, xs, rfl, g⟩
    · exact ⟨_, List.mem_singleton.mpr rfl, h⟩
  · split
    · obtain ⟨xs, rfl, g⟩ := h
      obtain ⟨k, hk, g⟩ := rep_split g
      exact ⟨_, List.mem_map.mpr ⟨k, hk, rfl⟩, xs, rfl, g⟩
    · exact ⟨_, List.mem_singleton.mpr rfl, h⟩
  · exact ⟨_, List.mem_singleton.mpr rfl, h⟩
theorem splitSt_ok {c : Ctx} : ∀ {sp : List Nat} {σ : AE} {s : AS}, rel ρ c σ s → ∃ u ∈ splitSt sp σ, rel ρ c u s
  | [], σ, s, h => ⟨σ, List.mem_singleton.mpr rfl, h⟩
  | i :: is, σ, s, h => by
    obtain ⟨v, hv, hs⟩ := splitV_ok (h.at_ i)
    obtain ⟨u, hu, hr⟩ := splitSt_ok (sp := is) (rel_setv h hs)
    exact ⟨u, List.mem_flatMap.mpr ⟨v, hv, hu⟩, hr⟩
theorem setAll_ok {c : Ctx} : ∀ {is : List Nat} {as : List A} {ds : List PyData} {σ σ' : AE} {s : AS}, gAll ρ as ds → rel ρ c σ s → setAllA is as σ = some σ' → ∃ s', setAll is ds s = some s' ∧ rel ρ c σ' s'
  | [], [], [], σ, σ', s, _, hr, e => by
    cases e
    exact ⟨s, rfl, hr⟩
  | i :: is, a :: as, d :: ds, σ, σ', s, g, hr, e => setAll_ok (is := is) g.2 (rel_set (v := .val a) hr ⟨d, rfl, g.1⟩) e
  | [], _ :: _, _, _, _, _, _, _, e => by simp [setAllA] at e
  | _ :: _, [], _, _, _, _, _, _, e => by simp [setAllA] at e
  | [], [], _ :: _, _, _, _, g, _, _ => g.elim
  | _ :: _, _ :: _, [], _, _, _, g, _, _ => g.elim
theorem ixN_in {n : Nat} {i : Int} (h0 : 0 ≤ i) (h : i < n) : L2.ixN n i = some i.toNat := by
  unfold L2.ixN
  rw [if_pos h0, if_pos h]
theorem exA_ok (HC : CfgOk ρ C Φ T) : ∀ st : S, ∀ c, c.t0 + KMI ≤ T → ∀ σ s outs, rel ρ c σ s → exA C st σ = some outs → ∃ o ∈ outs, oR ρ c o (ex Φ st s) := by
  have asgT : ∀ (g : G) (e : E), (∀ i, g ≠ .nm i) → ∀ c, c.t0 + KMI ≤ T → ∀ σ s outs, rel ρ c σ s → (wso (vlW (evA C e)) fun d σ => (match bindGA C.O g d σ with
    | some σ' => some ((splitSt C.sp σ').map AO.nx)
    | none => none)) σ = some outs → ∃ o ∈ outs, oR ρ c o (ex Φ (.asg g e) s) := by
    intro g e hg c hc σ s outs hr he
    have eq : ex Φ (.asg g e) s = (vl (ev Φ e) s).so fun d s1 => (match bindG g d s1 with
      | some s2 => .nx s2
      | none => .bad) := by
      cases g with
      | nm i => exact absurd rfl (hg i)
      | _ =>
        rw [ex] <;> first | rfl | (intros; contradiction)
    rw [eq]
    refine wso_ok (S_vl ((allOk HC e).ev c hc)) hr he fun a b σ' s' x g1 hr' hx => ?_
    split at hx
    · rename_i σ2 h2
      cases hx
      obtain ⟨s2, h3, h4⟩ := (bindGA_ok HC.O g).1 h2 g1 hr'
      obtain ⟨u, hu, hR⟩ := splitSt_ok (sp := C.sp) h4
      exact ⟨.nx u, List.mem_map.mpr ⟨u, hu, rfl⟩, by rw [h3]; exact hR⟩
    · cases hx
  intro st
  induction st with
  | nil => intro c hc σ s outs hr e; cases e; exact ⟨_, List.mem_singleton.mpr rfl, by rw [ex_nil]; exact hr⟩
  | seq a r iha ihr =>
    intro c hc σ s outs hr e
    simp only [exA] at e
    rw [ex_seq]
    cases h1 : exA C a σ with
    | none => rw [h1] at e; cases e
    | some os =>
      rw [h1] at e
      simp only [fc_eq] at e
      cases h2 : bindO (exA C r) (mergeN C.O C.sp (nxs os)) with
      | none => rw [h2] at e; cases e
      | some x =>
        rw [h2] at e
        cases e
        obtain ⟨o, ho, hR⟩ := iha c hc σ s os hr h1
        generalize ex Φ a s = v at hR
        cases o with
        | nx σ' => cases v with
          | nx s' =>
            obtain ⟨u, hu, hru⟩ := mergeN_ok (sp := C.sp) HC.O (nxs_mem ho) hR
            obtain ⟨y, hy, hsub⟩ := bindO_mem h2 hu
            obtain ⟨o2, ho2, hR2⟩ := ihr c hc u s' y hru hy
            exact ⟨o2, List.mem_append_right _ (hsub _ ho2), hR2⟩
          | _ => exact hR.elim
        | ret b a' σ' => cases v with
          | ret v s' => exact ⟨_, List.mem_append_left _ (rest_mem ho (fun σ h => by cases h)), hR⟩
          | _ => exact hR.elim
        | ct σ' => cases v with
          | ct s' => exact ⟨_, List.mem_append_left _ (rest_mem ho (fun σ h => by cases h)), hR⟩
          | _ => exact hR.elim
        | brk σ' => cases v with
          | brk s' => exact ⟨_, List.mem_append_left _ (rest_mem ho (fun σ h => by cases h)), hR⟩
          | _ => exact hR.elim
  | asg g e =>
    cases g with
    | nm i =>
      intro c hc σ s outs hr he
      rw [ex_asg1]
      simp only [exA] at he
      refine wso_ok (S_bind ((allOk HC e).ev c hc) fun a v g => S_take g) hr he fun a b σ' s' x g1 hr' hx => ?_
      cases hx
      obtain ⟨u, hu, hR⟩ := splitSt_ok (sp := C.sp) (rel_set hr' (svR_sl (c := c) (i := i) g1))
      exact ⟨.nx u, List.mem_map.mpr ⟨u, hu, rfl⟩, hR⟩
    | tp gs => exact asgT (.tp gs) e (fun i h => by cases h)
    | nil => exact asgT .nil e (fun i h => by cases h)
    | cons a b => exact asgT (.cons a b) e (fun i h => by cases h)
  | par is l =>
    intro c hc σ s outs hr he
    have eq : ex Φ (.par is l) s = (bnd (evs Φ l) fzs s).so fun ds s1 => (match setAll is ds s1 with
      | some s2 => .nx s2
      | none => .bad) := by
      rw [ex] <;> rfl
    rw [eq]
    simp only [exA] at he
    refine wso_ok (S_bind ((allOk HC l).evs c hc) fun a v g => S_fzs g) hr he fun a b σ' s' x g1 hr' hx => ?_
    split at hx
    · rename_i σ2 h2
      cases hx
      obtain ⟨s2, h3, h4⟩ := setAll_ok g1 hr' h2
      obtain ⟨u, hu, hR⟩ := splitSt_ok (sp := C.sp) h4
      exact ⟨.nx u, List.mem_map.mpr ⟨u, hu, rfl⟩, by rw [h3]; exact hR⟩
    · cases hx
  | setIx i k e =>
    intro c hc σ s outs hr he
    have eq : ex Φ (.setIx i k e) s = (bnd (vl (ev Φ e)) (fun d => bnd (opn (ev Φ (.var i))) fun o => bnd (vl (ev Φ k)) fun n => ret (d, o, n)) s).so fun p s1 => (match p.2.1, p.2.2 with
      | .bor j, .int n => (match sl s1 j with
        | some (.own b xs) => (match L2.ixN xs.length n with
          | some m => .nx (s1.set j (some (.own b (xs.set m p.1))))
          | none => .bad)
        | _ => .bad)
      | _, _ => .bad) := by
      rw [ex] <;> rfl
    rw [eq]
    simp only [exA] at he
    refine wso_ok (R := fun p q => p.1.g ρ q.1 ∧ p.2.1.r ρ q.2.1 ∧ p.2.2.g ρ q.2.2) (S_bind (S_vl ((allOk HC e).ev c hc)) fun d x gd => S_bind (S_opn ((allOk HC (.var i)).ev c hc)) fun o v go => S_bind (S_vl ((allOk HC k).ev c hc)) fun n y gn => S_ret ⟨gd, go, gn⟩) hr he fun p q σ' s' x g1 hr' hx => ?_
    obtain ⟨p1, p2, p3⟩ := p
    obtain ⟨q1, q2, q3⟩ := q
    obtain ⟨g1, g2, g3⟩ := g1
    dsimp only at g1 g2 g3 hx ⊢
    split at hx
    · rename_i j x' y' hn
      cases q2 with
      | bor j' =>
        have : j = j' := g2
        subst this
        obtain ⟨n, rfl, n1, n2⟩ := ints_ok hn g3
        have hs := hr'.at_ j
        cases hq : sa σ' j with
        | own b l =>
          rw [hq] at hs hx
          obtain ⟨xs, e1, gl⟩ := hs
          dsimp only at hx
          split at hx
          · rename_i m n' hm
            split at hx
            · rename_i hb
              rw [Bool.and_eq_true, decide_eq_true_eq, decide_eq_true_eq] at hb
              cases hx
              have hl := len_ok hm gl
              have hi : L2.ixN xs.length n = some n.toNat := ixN_in (by omega) (by omega)
              refine ⟨_, List.mem_singleton.mpr rfl, ?_⟩
              simp only [e1, hi]
              refine rel_set hr' ⟨_, rfl, ?_⟩
              split
              · have : n.toNat = x'.toNat := by omega
                rw [this]
                exact put_ok HC.O g1 gl
              · refine ⟨by rw [List.length_set]; omega, by rw [List.length_set]; omega, fun z hz => ?_⟩
                rcases List.mem_or_eq_of_mem_set hz with hz | rfl
                · exact (join_ok HC.O FU).1 _ _ z (.inl (allJ_ok HC.O gl hz))
                · exact (join_ok HC.O FU).1 _ _ _ (.inr g1)
            · cases hx
          · cases hx
        | _ => rw [hq] at hx; cases hx
      | _ => exact g2.elim
    · cases hx
  | aug i o e =>
    intro c hc σ s outs hr he
    have eq : ex Φ (.aug i o e) s = (bin2 o (ev Φ (.var i)) (ev Φ e) s).so fun v s1 => (match v with
      | .val d => .nx (s1.set i (some (.val d)))
      | _ => .bad) := by
      rw [ex] <;> rfl
    rw [eq]
    simp only [exA] at he
    refine wso_ok (S_bin HC ((allOk HC (.var i)).ev c hc) ((allOk HC e).ev c hc)) hr he fun a b σ' s' x g1 hr' hx => ?_
    split at hx
    · rename_i d
      cases hx
      cases b with
      | val y => exact ⟨_, List.mem_singleton.mpr rfl, rel_set hr' ⟨y, rfl, g1⟩⟩
      | _ => exact g1.elim
    · cases hx
  | expr e =>
    intro c hc σ s outs hr he
    rw [ex_expr]
    simp only [exA] at he
    refine wso_ok ((allOk HC e).ev c hc) hr he fun a b σ' s' x g1 hr' hx => ?_
    cases hx
    exact ⟨_, List.mem_singleton.mpr rfl, hr'⟩
  | ret e =>
    intro c hc σ s outs hr he
    rw [ex_ret]
    simp only [exA] at he
    refine wso_ok (S_bind ((allOk HC e).ev c hc) fun a v g => S_retW g) hr he fun a b σ' s' x g1 hr' hx => ?_
    cases hx
    exact ⟨_, List.mem_singleton.mpr rfl, g1, hr'⟩
  | retN =>
    intro c hc σ s outs hr e
    cases e
    exact ⟨_, List.mem_singleton.mpr rfl, by rw [ex_retN]; exact ⟨rfl, hr⟩⟩
  | ifs t a b iha ihb =>
    intro c hc σ s outs hr he
    rw [ex_ifs]
    simp only [exA] at he
    refine wso_ok ((allOk HC t).tst c hc) hr he fun k k' σ' s' x g1 hr' hx => ?_
    subst g1
    cases k with
    | true => exact iha c hc σ' s' x hr' hx
    | false => exact ihb c hc σ' s' x hr' hx
  | forr g it b ih =>
    intro c hc σ s outs hr he
    rw [ex_forr]
    simp only [exA] at he
    unfold wso at he
    cases h1 : evItA C true it σ with
    | none => simp only [h1] at he; cases he
    | some os =>
      simp only [h1] at he
      obtain ⟨src, s1, e1, p, σ1, hm, g1, g2, hr1⟩ := (allOk HC it).it c true hc σ s os hr h1
      obtain ⟨x, hx, hsub⟩ := wmapO_mem he hm
      cases hp : p.2 with
      | none =>
        rw [hp] at hx g2
        have g2 : src.2 = [] := g2
        obtain ⟨o, ho, hR⟩ := forA_ok HC.O hc (b := ex Φ b) (fun c' hc' σ s outs hr e => ih c' hc' σ s outs hr e) g1 hr1 hx
        refine ⟨o, hsub o ho, ?_⟩
        dsimp only
        rw [e1]
        show oR ρ c o (if src.2.isEmpty = true then _ else _)
        rw [g2]
        exact hR
      | some i => rw [hp] at hx; cases hx
  | pass => intro c hc σ s outs hr e; cases e; exact ⟨_, List.mem_singleton.mpr rfl, by rw [ex_pass]; exact hr⟩
  | brk => intro c hc σ s outs hr e; cases e; exact ⟨_, List.mem_singleton.mpr rfl, by rw [ex_brk]; exact hr⟩
  | cont => intro c hc σ s outs hr e; cases e; exact ⟨_, List.mem_singleton.mpr rfl, by rw [ex_cont]; exact hr⟩
  | whl t b ih => intro c hc σ s outs hr e; cases e
  | rais n e => intro c hc σ s outs hr e; cases e
  | tryc a n m b iha ihb => intro c hc σ s outs hr e; cases e
/-! #### defs -/
def thF : List FArg → Nat → List PyData
  | [], _ => []
  | .io xs :: _, 0 => xs
  | .val _ :: _, 0 => []
  | _ :: r, i + 1 => thF r i
theorem start_ok {t : Int} : ∀ {as : List AArg} {fs : List FArg} {n : Nat}, argsR ρ t as fs → as.length = fs.length ∧ rel ρ ⟨t, thF fs⟩ (slotsA as ++ List.replicate n .no) (fs.map fargS ++ List.replicate n none)
  | [], [], n, _ => ⟨rfl, by simp [slotsA], fun i => by
      simp only [slotsA, List.map_nil, List.nil_append]
      have h1 : sa (List.replicate n SL.no) i = .no := by
        unfold sa
        rw [List.getElem?_replicate]
        split <;> rfl
      have h2 : sl (List.replicate n none) i = none := by
        unfold sl
        rw [List.getElem?_replicate]
        split <;> rfl
      rw [h1, h2]
      rfl⟩
  | a :: as, f :: fs, n, h => by
    obtain ⟨h1, h2⟩ := h
    obtain ⟨e, hr⟩ := start_ok (n := n) h2
    refine ⟨by simp [e], ?_, fun i => ?_⟩
    · have := hr.len
      cases a <;> simp only [slotsA, List.map_cons, List.cons_append, List.length_cons, this]
    · cases i with
      | zero =>
        cases a with
        | val a => cases f with
          | val d => exact ⟨d, rfl, h1⟩
          | io _ => exact h1.elim
        | jar => cases f with
          | val d => exact h1.elim
          | io xs =>
            have h1 : JarI t xs := h1
            exact ⟨xs, rfl, h1.mono (by simp)⟩
        | io l => cases f with
          | val d => exact h1.elim
          | io xs => exact ⟨rfl, h1⟩
      | succ i =>
        have hi := hr.at_ i
        have key : ∀ (x : SL) (o : Option SV), slR ρ ⟨t, thF fs⟩ i x o → slR ρ ⟨t, thF (f :: fs)⟩ (i + 1) x o := by
          intro x o hx
          have ht : thF (f :: fs) (i + 1) = thF fs i := by cases f <;> rfl
          cases x with
          | ref b l =>
            unfold slR at hx ⊢
            rw [show (Ctx.mk t (thF (f :: fs))).th (i + 1) = thF fs i from ht]
            exact hx
          | _ => exact hx
        have : sa (slotsA (a :: as) ++ List.replicate n SL.no) (i + 1) = sa (slotsA as ++ List.replicate n SL.no) i := by cases a <;> rfl
        rw [this]
        exact key _ _ hi
  | [], _ :: _, _, h => h.elim
  | _ :: _, [], _, h => h.elim
theorem ios_ok {c : Ctx} {k : Nat} : ∀ {as : List AArg} {fs : List FArg} {σ : AE} {s : AS} {t : Int}, argsR ρ t as fs → okIos k as σ = true → (∀ i, c.th i = thF fs i) → rel ρ c σ s → ∃ ios, iosOf fs s = some ios ∧ iosR (c.t0 + k) as fs ios
  | [], [], σ, s, t, _, _, _, _ => ⟨[], rfl, trivial⟩
  | a :: as, f :: fs, σ, s, t, h, e, hth, hr => by
    have tail : ∀ {x σ' o s'}, σ = x :: σ' → s = o :: s' → rel ρ ⟨c.t0, fun i => c.th (i + 1)⟩ σ' s' := by
      intro x σ' o s' e1 e2
      subst e1 e2
      refine ⟨by simpa using hr.len, fun i => ?_⟩
      have := hr.at_ (i + 1)
      have e1 : sa (x :: σ') (i + 1) = sa σ' i := rfl
      have e2 : sl (o :: s') (i + 1) = sl s' i := rfl
      rw [e1, e2] at this
      cases hx : sa σ' i <;> rw [hx] at this <;> exact this
    have hth' : ∀ i, (fun i => c.th (i + 1)) i = thF fs i := by
      intro i
      show c.th (i + 1) = _
      rw [hth]
      cases f <;> rfl
    cases σ with
    | nil => cases a <;> simp [okIos] at e
    | cons x σ =>
      cases s with
      | nil => exact absurd hr.len (by simp)
      | cons o s =>
        have hr' := tail rfl rfl
        have h0 := hr.at_ 0
        cases a with
        | val a =>
          cases f with
          | io _ => exact h.1.elim
          | val d =>
            have e : okIos k as σ = true := by simpa [okIos] using e
            obtain ⟨ios, h1, h2⟩ := ios_ok (c := ⟨c.t0, fun i => c.th (i + 1)⟩) h.2 e hth' hr'
            exact ⟨ios, h1, h2⟩
        | jar =>
          cases f with
          | val _ => exact h.1.elim
          | io xs =>
            cases x with
            | jar b k' =>
              cases b with
              | false => simp [okIos] at e
              | true =>
                simp only [okIos, Bool.and_eq_true, decide_eq_true_eq] at e
                obtain ⟨ys, h3, h4⟩ := h0
                have h3 : o = some (.own true ys) := by simpa using h3
                subst h3
                obtain ⟨ios, h1, h2⟩ := ios_ok (c := ⟨c.t0, fun i => c.th (i + 1)⟩) h.2 e.2 hth' hr'
                exact ⟨ys :: ios, by simp [iosOf, h1], h4.mono (by omega), h2⟩
            | _ => simp [okIos] at e
        | io l =>
          cases f with
          | val _ => exact h.1.elim
          | io xs =>
            cases x with
            | ref b l' =>
              cases b with
              | false => simp [okIos] at e
              | true =>
                have e : okIos k as σ = true := by simpa [okIos] using e
                obtain ⟨h3, h4⟩ := h0
                have ht : c.th 0 = xs := hth 0
                rw [ht] at h3
                have h3 : o = some (.own true xs) := by simpa using h3
                subst h3
                obtain ⟨ios, h1, h2⟩ := ios_ok (c := ⟨c.t0, fun i => c.th (i + 1)⟩) h.2 e hth' hr'
                exact ⟨xs :: ios, by simp [iosOf, h1], rfl, h2⟩
            | _ => simp [okIos] at e
  | [], _ :: _, _, _, _, h, _, _, _ => h.elim
  | _ :: _, [], _, _, _, h, _, _, _ => h.elim
/-- a def -/
theorem def_ok (HC : CfgOk ρ C Φ T) {fd : FDef} {args : List AArg} {r : Bool × A × Nat} (h : defOk C fd args r = true) : ∀ t fargs, t + KMI ≤ T → argsR ρ t args fargs → ∃ v ios, runF Φ fd fargs = .ret v ios ∧ rvR ρ r.1 r.2.1 v ∧ iosR (t + r.2.2) args fargs ios := by
  intro t fargs ht ha
  unfold defOk at h
  rw [Bool.and_eq_true, decide_eq_true_eq] at h
  obtain ⟨hn, h⟩ := h
  obtain ⟨hlen, hr⟩ := start_ok (n := fd.ns - args.length) ha
  split at h
  · rename_i outs hd
    have hc : (Ctx.mk t (thF fargs)).t0 + KMI ≤ T := ht
    obtain ⟨o, ho, hR⟩ := exA_ok HC fd.body ⟨t, thF fargs⟩ hc _ _ outs hr hd
    have hok := List.all_eq_true.mp h o ho
    have hst : startA fd.ns fargs = fargs.map fargS ++ List.replicate (fd.ns - args.length) none := by
      unfold startA
      rw [hlen]
    unfold runF
    rw [if_pos (by omega), hst]
    generalize ex Φ fd.body (fargs.map fargS ++ List.replicate (fd.ns - args.length) none) = v at hR
    cases o with
    | nx σ => cases v with
      | nx s =>
        simp only [okOut, Bool.and_eq_true, Bool.not_eq_true'] at hok
        obtain ⟨⟨h1, h2⟩, h3⟩ := hok
        obtain ⟨ios, h4, h5⟩ := ios_ok (c := ⟨t, thF fargs⟩) ha h3 (fun i => rfl) hR
        refine ⟨.val .none, ios, by simp only [finR, h4], ?_, h5⟩
        rw [h1]
        exact (le_ok HC.O FU).1 _ _ h2 .none rfl
      | _ => exact hR.elim
    | ret b a σ => cases v with
      | ret v s =>
        simp only [okOut, Bool.and_eq_true, beq_iff_eq] at hok
        obtain ⟨⟨h1, h2⟩, h3⟩ := hok
        obtain ⟨hv, hR⟩ := hR
        obtain ⟨ios, h4, h5⟩ := ios_ok (c := ⟨t, thF fargs⟩) ha h3 (fun i => rfl) hR
        refine ⟨v, ios, by simp only [finR, h4], ?_, h5⟩
        rw [← h1]
        cases b with
        | true =>
          cases v with
          | new xs => exact (le_ok HC.O FU).2.1 _ _ h2 xs hv
          | val _ => exact hv.elim
        | false =>
          cases v with
          | new _ => exact hv.elim
          | val d => exact (le_ok HC.O FU).1 _ _ h2 d hv
      | _ => exact hR.elim
    | _ => simp [okOut] at hok
  · cases h
end
end AM.AI
set_option Elab.async false
set_option linter.all false
set_option maxRecDepth 100000
set_option maxHeartbeats 4000000
/-! AI16: tables of what defs give. -/
namespace AM.AI
open PySem
def TN (n : Nat) : Int := 90000000000000 - (n : Int) * 1000000000000
def CfgAt (ρ : Nat → PyData → Prop) (C : Cfg) (Γ : Prog) (N : Nat) : Prop := ∀ n, N ≤ n → n ≤ 60 → CfgOk ρ C (phi Γ n) (TN n)
def leArg (O : Opq) : AArg → AArg → Bool
  | .val a, .val b => A.le O FU a b
  | .jar, .jar => true
  | .io l, .io m => A.leL O FU l m
  | _, _ => false
def leArgs (O : Opq) : List AArg → List AArg → Bool
  | [], [] => true
  | a :: r, b :: r' => leArg O a b && leArgs O r r'
  | _, _ => false
abbrev Tab := List (List AArg × (Bool × A × Nat))
def look (O : Opq) : Tab → List AArg → Option (Bool × A × Nat)
  | [], _ => none
  | p :: r, args => if leArgs O args p.1 then some p.2 else look O r args
def addF (O : Opq) (f : Nat) (tab : Tab) (old : Nat → List AArg → Option (Bool × A × Nat)) (g : Nat) (args : List AArg) : Option (Bool × A × Nat) := if g = f then look O tab args else old g args
def Cfg.add (C : Cfg) (f : Nat) (tab : Tab) : Cfg := { C with fn := addF C.O f tab C.fn }
def Cfg.spl (C : Cfg) (sp : List Nat) : Cfg := { C with sp := sp }
/-- a def by a function of the shapes -/
def Cfg.addG (C : Cfg) (f : Nat) (h : List AArg → Option (Bool × A × Nat)) : Cfg := { C with fn := fun g args => if g = f then h args else C.fn g args }
section
variable {ρ : Nat → PyData → Prop} {C : Cfg} {Γ : Prog}
theorem leArgs_ok {O : Opq} (HO : OpqOk O ρ) {t : Int} : ∀ {as bs : List AArg} {fs : List FArg}, leArgs O as bs = true → argsR ρ t as fs → argsR ρ t bs fs
  | [], [], fs, _, h => h
  | a :: as, b :: bs, f :: fs, e, h => by
    simp only [leArgs, Bool.and_eq_true] at e
    refine ⟨?_, leArgs_ok HO e.2 h.2⟩
    have e1 := e.1
    have h1 := h.1
    cases a with
    | val a => cases b with
      | val b => cases f with
        | val d => exact (le_ok HO FU).1 _ _ e1 d h1
        | io _ => exact h1.elim
      | _ => simp [leArg] at e1
    | jar => cases b with
      | jar => exact h1
      | _ => simp [leArg] at e1
    | io l => cases b with
      | io m => cases f with
        | val d => exact h1.elim
        | io xs => exact (le_ok HO FU).2.1 _ _ e1 xs h1
      | _ => simp [leArg] at e1
  | [], _ :: _, _, e, _ => by simp [leArgs] at e
  | _ :: _, [], _, e, _ => by simp [leArgs] at e
  | _ :: _, _ :: _, [], _, h => h.elim
theorem iosR_le {O : Opq} {t : Int} : ∀ {as bs : List AArg} {fs : List FArg} {ios : List (List PyData)}, leArgs O as bs = true → iosR t bs fs ios → iosR t as fs ios
  | [], [], fs, ios, _, h => h
  | a :: as, b :: bs, f :: fs, ios, e, h => by
    simp only [leArgs, Bool.and_eq_true] at e
    have e1 := e.1
    cases a with
    | val a => cases b with
      | val b => cases f with
        | val d => exact iosR_le (as := as) (bs := bs) e.2 h
        | io _ => simp [iosR] at h
      | _ => simp [leArg] at e1
    | jar => cases b with
      | jar => cases f with
        | val d => simp [iosR] at h
        | io xs => cases ios with
          | nil => simp [iosR] at h
          | cons y ios => exact ⟨h.1, iosR_le e.2 h.2⟩
      | _ => simp [leArg] at e1
    | io l => cases b with
      | io m => cases f with
        | val d => simp [iosR] at h
        | io xs => cases ios with
          | nil => simp [iosR] at h
          | cons y ios => exact ⟨h.1, iosR_le e.2 h.2⟩
      | _ => simp [leArg] at e1
  | [], _ :: _, _, _, e, _ => by simp [leArgs] at e
  | _ :: _, [], _, _, e, _ => by simp [leArgs] at e
  | _ :: _, b :: _, [], ios, _, h => by cases b <;> simp [iosR] at h
theorem look_ok {O : Opq} (HO : OpqOk O ρ) {Φ : Calls} {T : Int} {f : Nat} : ∀ {tab : Tab}, (∀ p ∈ tab, SumOk ρ Φ T f p.1 p.2) → ∀ {args r}, look O tab args = some r → SumOk ρ Φ T f args r
  | [], _, args, r, e => by cases e
  | p :: tab, h, args, r, e => by
    unfold look at e
    split at e
    · rename_i hle
      cases e
      intro t fargs ht ha
      obtain ⟨v, ios, h1, h2, h3⟩ := h p (List.mem_cons_self ..) t fargs ht (leArgs_ok HO hle ha)
      exact ⟨v, ios, h1, h2, iosR_le hle h3⟩
    · exact look_ok HO (fun q m => h q (List.mem_cons_of_mem _ m)) e
theorem TN_succ (n : Nat) : TN (n + 1) + KMI = TN n := by
  unfold TN
  show 90000000000000 - ((n + 1 : Nat) : Int) * 1000000000000 + 1000000000000 = 90000000000000 - (n : Int) * 1000000000000
  omega
theorem CfgOk.spl {Φ : Calls} {T : Int} {sp : List Nat} (h : CfgOk ρ C Φ T) : CfgOk ρ (C.spl sp) Φ T := ⟨h.O, h.fn, h.by_⟩
theorem CfgAt.mono {N N' : Nat} (h : CfgAt ρ C Γ N) (l : N ≤ N') : CfgAt ρ C Γ N' := fun n hn h6 => h n (by omega) h6
/-- a def's summary, out of its text -/
theorem sum_def {N : Nat} (HC : CfgAt ρ C Γ N) {f : Nat} {fd : FDef} (hf : Γ.fns[f]? = some fd) {sp : List Nat} {args : List AArg} {r : Bool × A × Nat} (h : defOk (C.spl sp) fd args r = true) : ∀ n, N + 1 ≤ n → n ≤ 60 → SumOk ρ (phi Γ n) (TN n) f args r := by
  intro n hn h6 t fargs ht ha
  obtain ⟨m, rfl⟩ : ∃ m, n = m + 1 := ⟨n - 1, by omega⟩
  have hC := (HC m (by omega) (by omega)).spl (sp := sp)
  rw [go_succ Γ m f fargs hf]
  refine def_ok hC h t fargs ?_ ha
  have := TN_succ m
  omega
theorem TN_anti {n m : Nat} (h : n ≤ m) : TN m ≤ TN n := by unfold TN; omega
/-- one def more -/
theorem add_def {N : Nat} (HC : CfgAt ρ C Γ N) {f : Nat} {fd : FDef} (hf : Γ.fns[f]? = some fd) {sp : List Nat} {tab : Tab} (h : tab.all (fun p => defOk (C.spl sp) fd p.1 p.2) = true) : CfgAt ρ (C.add f tab) Γ (N + 1) := by
  intro n hn h6
  have h0 := HC n (by omega) h6
  refine ⟨h0.O, fun g args r e => ?_, h0.by_⟩
  have e2 : addF C.O f tab C.fn g args = some r := e
  clear e
  unfold addF at e2
  split at e2
  · rename_i hg
    subst hg
    exact look_ok h0.O (fun p m => sum_def HC hf (List.all_eq_true.mp h p m) n hn h6) e2
  · exact h0.fn g args r e2
theorem add_fun {N : Nat} (HC : CfgAt ρ C Γ N) {f : Nat} {h : List AArg → Option (Bool × A × Nat)} {N' : Nat} (hN : N ≤ N') (hh : ∀ args r, h args = some r → ∀ n, N' ≤ n → n ≤ 60 → SumOk ρ (phi Γ n) (TN n) f args r) : CfgAt ρ (C.addG f h) Γ N' := by
  intro n hn h6
  have h0 := HC n (by omega) h6
  refine ⟨h0.O, fun g args r e => ?_, h0.by_⟩
  have e2 : (if g = f then h args else C.fn g args) = some r := e
  clear e
  split at e2
  · rename_i hg
    subst hg
    exact hh args r e2 n hn h6
  · exact h0.fn g args r e2
/-- a table's row holds, proved elsewhere -/
theorem add_tab {N : Nat} (HC : CfgAt ρ C Γ N) {f : Nat} {tab : Tab} {N' : Nat} (hN : N ≤ N') (hh : ∀ p ∈ tab, ∀ n, N' ≤ n → n ≤ 60 → SumOk ρ (phi Γ n) (TN n) f p.1 p.2) : CfgAt ρ (C.add f tab) Γ N' := by
  intro n hn h6
  have h0 := HC n (by omega) h6
  refine ⟨h0.O, fun g args r e => ?_, h0.by_⟩
  have e2 : addF C.O f tab C.fn g args = some r := e
  clear e
  unfold addF at e2
  split at e2
  · rename_i hg
    subst hg
    exact look_ok h0.O (fun p m => hh p m n hn h6) e2
  · exact h0.fn g args r e2
def Cfg0 (O : Opq) (fns : List FDef) : Cfg := ⟨O, fun _ _ => none, fun f => ((fns[f]?).map (·.by_)).getD [], []⟩
theorem cfg0_ok {O : Opq} (HO : OpqOk O ρ) (Γ : Prog) : CfgAt ρ (Cfg0 O Γ.fns) Γ 0 := fun n _ _ => ⟨HO, fun f args r e => (by cases e), fun f => by_phi Γ n f⟩
/-! #### take, one -/
theorem args2 {ρ : Nat → PyData → Prop} {t : Int} {a b : AArg} : ∀ {fs : List FArg}, argsR ρ t [a, b] fs → ∃ f g, fs = [f, g] ∧ argR ρ t a f ∧ argR ρ t b g
  | [], h => h.elim
  | [_], h => h.2.elim
  | [f, g], h => ⟨f, g, rfl, h.1, h.2.1⟩
  | _ :: _ :: _ :: _, h => h.2.2.elim
theorem argJ {ρ : Nat → PyData → Prop} {t : Int} : ∀ {f : FArg}, argR ρ t .jar f → ∃ jar, f = .io jar ∧ JarI t jar
  | .io jar, h => ⟨jar, rfl, h⟩
  | .val _, h => h.elim
theorem argV {ρ : Nat → PyData → Prop} {t : Int} {a : A} : ∀ {f : FArg}, argR ρ t (.val a) f → ∃ d, f = .val d ∧ a.g ρ d
  | .io jar, h => h.elim
  | .val d, h => ⟨d, rfl, h⟩
theorem argI {ρ : Nat → PyData → Prop} {t : Int} {a : A} : ∀ {f : FArg}, argR ρ t (.io a) f → ∃ xs, f = .io xs ∧ a.gl ρ xs
  | .io xs, h => ⟨xs, rfl, h⟩
  | .val d, h => h.elim
def sumTake (args : List AArg) : Option (Bool × A × Nat) := match args with
  | [.jar, .val a] => (match a.ints with
    | some (l, h) => if decide (0 < l) && decide (h < 2 ^ 32) then some (false, .int 0 (h - 1), 1) else none
    | none => none)
  | _ => none
def sumOne (O : Opq) (args : List AArg) : Option (Bool × A × Nat) := match args with
  | [.jar, .val a] => (match a.seqL O with
    | some l => (match A.len l with
      | some (m, n) => if decide (0 < m) && decide (n ≤ 1000000) then some (false, A.allJ O FU l, 1) else none
      | none => none)
    | none => none)
  | [.jar, .io l] => (match A.len l with
    | some (m, n) => if decide (0 < m) && decide (n ≤ 1000000) then some (false, A.allJ O FU l, 1) else none
    | none => none)
  | _ => none
theorem take_sum {f : Nat} (h : ∀ n (t : Nat) jar (m : Int), 0 < n → JarOk t jar → t < 10 ^ 15 → 0 < m → m < 2 ^ 32 → ∃ (v : Int) (jar' : List PyData), (phi Γ n).go f [.io jar, .val (.int m)] = .ret (.val (.int v)) [jar'] ∧ 0 ≤ v ∧ v < m ∧ JarOk (t + 1) jar') :
    ∀ args r, sumTake args = some r → ∀ n, 1 ≤ n → n ≤ 60 → SumOk ρ (phi Γ n) (TN n) f args r := by
  intro args r e n hn h6 t fargs ht ha
  unfold sumTake at e
  split at e
  · rename_i a
    split at e
    · rename_i l hh hi
      split at e
      · rename_i hb
        rw [Bool.and_eq_true, decide_eq_true_eq, decide_eq_true_eq] at hb
        cases e
        obtain ⟨f1, f2, rfl, hj, hd⟩ := args2 ha
        obtain ⟨jar, rfl, hj⟩ := argJ hj
        obtain ⟨d, rfl, hd⟩ := argV hd
        obtain ⟨m, rfl, m1, m2⟩ := ints_ok hi hd
        obtain ⟨t0, hj⟩ := hj.nat
        have ht' : t ≤ 90000000000000 := Int.le_trans ht (by unfold TN; omega)
        obtain ⟨v, jar', e1, v0, v1, hj'⟩ := h n t.toNat jar m hn hj (by omega) (by omega) (by omega)
        refine ⟨_, _, e1, ⟨v, rfl, v0, by omega⟩, ?_⟩
        have := jarInt hj'
        exact ⟨this.mono (show ((t.toNat + 1 : Nat) : Int) ≤ t + ((1 : Nat) : Int) by omega), trivial⟩
      · cases e
    · cases e
  · cases e
theorem one_sum {O : Opq} (HO : OpqOk O ρ) {f : Nat} (h : ∀ n (t : Nat) jar (ths : List PyData), 1 < n → JarOk t jar → t < 10 ^ 15 → 0 < ths.length → ths.length ≤ 1000000 → ∃ (v : PyData) (jar' : List PyData), (phi Γ n).go f [.io jar, .val (.list ths)] = .ret (.val v) [jar'] ∧ v ∈ ths ∧ JarOk (t + 1) jar')
    (h' : ∀ n (t : Nat) jar (ths : List PyData), 1 < n → JarOk t jar → t < 10 ^ 15 → 0 < ths.length → ths.length ≤ 1000000 → ∃ (v : PyData) (jar' : List PyData), (phi Γ n).go f [.io jar, .io ths] = .ret (.val v) [jar', ths] ∧ v ∈ ths ∧ JarOk (t + 1) jar') :
    ∀ args r, sumOne O args = some r → ∀ n, 2 ≤ n → n ≤ 60 → SumOk ρ (phi Γ n) (TN n) f args r := by
  intro args r e n hn h6 t fargs ht ha
  have ht' : t ≤ 90000000000000 := Int.le_trans ht (by unfold TN; omega)
  unfold sumOne at e
  split at e
  · rename_i a
    split at e
    · rename_i l hl
      split at e
      · rename_i m k hm
        split at e
        · rename_i hb
          rw [Bool.and_eq_true, decide_eq_true_eq, decide_eq_true_eq] at hb
          cases e
          obtain ⟨f1, f2, rfl, hj, hd⟩ := args2 ha
          obtain ⟨jar, rfl, hj⟩ := argJ hj
          obtain ⟨d, rfl, hd⟩ := argV hd
          obtain ⟨xs, rfl, g⟩ := seqL_ok HO hl hd
          obtain ⟨t0, hj⟩ := hj.nat
          have := len_ok hm g
          obtain ⟨v, jar', e1, v0, hj'⟩ := h n t.toNat jar xs (by omega) hj (by omega) (by omega) (by omega)
          refine ⟨_, _, e1, allJ_ok HO g v0, ?_⟩
          have := jarInt hj'
          exact ⟨this.mono (show ((t.toNat + 1 : Nat) : Int) ≤ t + ((1 : Nat) : Int) by omega), trivial⟩
        · cases e
      · cases e
    · cases e
  · rename_i l
    split at e
    · rename_i m k hm
      split at e
      · rename_i hb
        rw [Bool.and_eq_true, decide_eq_true_eq, decide_eq_true_eq] at hb
        cases e
        obtain ⟨f1, f2, rfl, hj, g⟩ := args2 ha
        obtain ⟨jar, rfl, hj⟩ := argJ hj
        obtain ⟨xs, rfl, g⟩ := argI g
        obtain ⟨t0, hj⟩ := hj.nat
        have := len_ok hm g
        obtain ⟨v, jar', e1, v0, hj'⟩ := h' n t.toNat jar xs (by omega) hj (by omega) (by omega) (by omega)
        refine ⟨_, _, e1, allJ_ok HO g v0, ?_⟩
        have := jarInt hj'
        exact ⟨this.mono (show ((t.toNat + 1 : Nat) : Int) ≤ t + ((1 : Nat) : Int) by omega), rfl, trivial⟩
      · cases e
    · cases e
  · cases e
end
end AM.AI
set_option Elab.async false
set_option linter.all false
set_option maxRecDepth 100000
set_option maxHeartbeats 0
namespace K01
open PySem AM
def top (i : Nat) : Stmt := PySem.Challenge.pw_keptalone_k01_rules_books_and_weights_by.main.body.getD i (.Pass ⟨0, 0, 0, 0⟩)
def tb : Tb := ⟨[PySem.Str.ofString "is_number", PySem.Str.ofString "whole", PySem.Str.ofString "asked_many", PySem.Str.ofString "first_odd", PySem.Str.ofString "wrong_rule", PySem.Str.ofString "asked_rule", PySem.Str.ofString "made_rule", PySem.Str.ofString "is_rule", PySem.Str.ofString "wrong_outside", PySem.Str.ofString "first_no_rule", PySem.Str.ofString "made_book", PySem.Str.ofString "is_book", PySem.Str.ofString "is_weight", PySem.Str.ofString "made_weights", PySem.Str.ofString "_law_pool", PySem.Str.ofString "_law_take", PySem.Str.ofString "_law_one", PySem.Str.ofString "_law_km_is_whole", PySem.Str.ofString "_law_km_is_in", PySem.Str.ofString "_law_km_same", PySem.Str.ofString "_law_km_rule_fault", PySem.Str.ofString "_law_km_book_fault", PySem.Str.ofString "_law_km_weights_fault", PySem.Str.ofString "_law_km_number", PySem.Str.ofString "_law_km_rule", PySem.Str.ofString "_law_km_entries", PySem.Str.ofString "_law_km_book", PySem.Str.ofString "_law_km_bent", PySem.Str.ofString "_law_fm_wrong_rules", PySem.Str.ofString "_law_fm_rules_right", PySem.Str.ofString "_law_fm_wrong_books", PySem.Str.ofString "_law_fm_books_right", PySem.Str.ofString "_law_fm_weights_right", PySem.Str.ofString "_law_fm_first_right", PySem.Str.ofString "_law_fm_bounds_right", PySem.Str.ofString "law"], [PySem.Str.ofString "Refused", PySem.Str.ofString "BadMany", PySem.Str.ofString "TooMany", PySem.Str.ofString "BadRule", PySem.Str.ofString "BadBook", PySem.Str.ofString "BadWeights"], [PySem.Str.ofString "_law_fm_heard"], [PySem.Str.ofString "any", PySem.Str.ofString "bool", PySem.Str.ofString "enumerate", PySem.Str.ofString "int", PySem.Str.ofString "isinstance", PySem.Str.ofString "len", PySem.Str.ofString "list", PySem.Str.ofString "max", PySem.Str.ofString "min", PySem.Str.ofString "range", PySem.Str.ofString "str", PySem.Str.ofString "tuple"], [("MOST_ENTRIES", 12), ("MOST_RULES", 24)]⟩
/-- is_number -/
def f_is_number : FDef := ⟨1, 1, [false],
    (.seq (.ret (.an (.cons (.inst (.var 0) .int) (.cons (.nt (.inst (.var 0) .bool)) .nil))))
    .nil)⟩
def d_is_number : Dd := ⟨8, "is_number", [PySem.Str.ofString "thing"], [PySem.Str.ofString "thing"], false⟩
/-- whole -/
def f_whole : FDef := ⟨3, 3, [false, false, false],
    (.seq (.ret (.an (.cons (.call 0 (.cons (.var 0) .nil)) (.cons (.chn .le .le (.var 1) (.var 0) (.var 2)) .nil))))
    .nil)⟩
def d_whole : Dd := ⟨9, "whole", [PySem.Str.ofString "thing", PySem.Str.ofString "least", PySem.Str.ofString "most"], [PySem.Str.ofString "thing", PySem.Str.ofString "least", PySem.Str.ofString "most"], false⟩
/-- asked_many -/
def f_asked_many : FDef := ⟨3, 3, [false, false, false],
    (.seq (.ifs (.nt (.call 1 (.cons (.var 0) (.cons (.var 1) (.cons (.var 2) .nil))))) (.seq (.rais 1 (.var 0))
    .nil) .nil)
    (.seq (.ret (.var 0))
    .nil))⟩
def d_asked_many : Dd := ⟨10, "asked_many", [PySem.Str.ofString "thing", PySem.Str.ofString "least", PySem.Str.ofString "most"], [PySem.Str.ofString "thing", PySem.Str.ofString "least", PySem.Str.ofString "most"], false⟩
/-- first_odd -/
def f_first_odd : FDef := ⟨1, 3, [false],
    (.seq (.forr (.tp (.cons (.nm 1) (.cons (.nm 2) .nil))) (.enum (.var 0)) (.seq (.ifs (.nt (.call 0 (.cons (.var 2) .nil))) (.seq (.ret (.var 1))
    .nil) .nil)
    .nil))
    (.seq (.ret (.lit .none))
    .nil))⟩
def d_first_odd : Dd := ⟨14, "first_odd", [PySem.Str.ofString "nums", PySem.Str.ofString "at", PySem.Str.ofString "num"], [PySem.Str.ofString "nums"], false⟩
/-- wrong_rule -/
def f_wrong_rule : FDef := ⟨2, 4, [false, false],
    (.seq (.ifs (.orr (.cons (.nt (.inst (.var 1) .tuple)) (.cons (.cmp .ne (.blt .len (.cons (.var 1) .nil)) (.bin .add (.var 0) (.lit (.int 1)))) .nil))) (.seq (.ret (.neg (.lit (.int 1))))
    .nil) .nil)
    (.seq (.asg (.nm 2) (.call 3 (.cons (.var 1) .nil)))
    (.seq (.ifs (.an (.cons (.isN true (.var 2)) (.cons (.nt (.blt .any (.cons (.comp (.cmp .ne (.var 3) (.lit (.int 0))) (.nm 3) (.slc (.var 1) (.lit (.int 1)) .nop) .nil [3]) .nil))) .nil))) (.seq (.ret (.neg (.lit (.int 2))))
    .nil) .nil)
    (.seq (.ret (.var 2))
    .nil))))⟩
def d_wrong_rule : Dd := ⟨15, "wrong_rule", [PySem.Str.ofString "n", PySem.Str.ofString "thing", PySem.Str.ofString "wrong", PySem.Str.ofString "pull"], [PySem.Str.ofString "n", PySem.Str.ofString "thing"], false⟩
/-- asked_rule -/
def f_asked_rule : FDef := ⟨2, 3, [false, false],
    (.seq (.asg (.nm 2) (.call 4 (.cons (.var 0) (.cons (.var 1) .nil))))
    (.seq (.ifs (.isN false (.var 2)) (.seq (.rais 3 (.var 2))
    .nil) .nil)
    (.seq (.ret (.var 1))
    .nil)))⟩
def d_asked_rule : Dd := ⟨16, "asked_rule", [PySem.Str.ofString "n", PySem.Str.ofString "thing", PySem.Str.ofString "wrong"], [PySem.Str.ofString "n", PySem.Str.ofString "thing"], false⟩
/-- made_rule -/
def f_made_rule : FDef := ⟨2, 2, [false, false],
    (.seq (.ret (.call 5 (.cons (.call 2 (.cons (.var 0) (.cons (.lit (.int 0)) (.cons (.glb "MOST_ENTRIES" (.int 12)) .nil)))) (.cons (.var 1) .nil))))
    .nil)⟩
def d_made_rule : Dd := ⟨17, "made_rule", [PySem.Str.ofString "n", PySem.Str.ofString "thing"], [PySem.Str.ofString "n", PySem.Str.ofString "thing"], false⟩
/-- is_rule -/
def f_is_rule : FDef := ⟨2, 2, [false, false],
    (.seq (.ret (.isN true (.call 4 (.cons (.call 2 (.cons (.var 0) (.cons (.lit (.int 0)) (.cons (.glb "MOST_ENTRIES" (.int 12)) .nil)))) (.cons (.var 1) .nil)))))
    .nil)⟩
def d_is_rule : Dd := ⟨18, "is_rule", [PySem.Str.ofString "n", PySem.Str.ofString "thing"], [PySem.Str.ofString "n", PySem.Str.ofString "thing"], false⟩
/-- wrong_outside -/
def f_wrong_outside : FDef := ⟨1, 1, [false],
    (.seq (.ifs (.orr (.cons (.nt (.inst (.var 0) .tuple)) (.cons (.cmp .ne (.blt .len (.cons (.var 0) .nil)) (.lit (.int 2))) .nil))) (.seq (.ret (.neg (.lit (.int 1))))
    .nil) .nil)
    (.seq (.ifs (.nt (.call 1 (.cons (.ix (.var 0) (.lit (.int 0))) (.cons (.lit (.int 0)) (.cons (.glb "MOST_ENTRIES" (.int 12)) .nil))))) (.seq (.ret (.lit (.int 0)))
    .nil) .nil)
    (.seq (.ret (.ite (.inst (.ix (.var 0) (.lit (.int 1))) .tuple) (.lit .none) (.lit (.int 1))))
    .nil)))⟩
def d_wrong_outside : Dd := ⟨19, "wrong_outside", [PySem.Str.ofString "thing"], [PySem.Str.ofString "thing"], false⟩
/-- first_no_rule -/
def f_first_no_rule : FDef := ⟨2, 4, [false, false],
    (.seq (.forr (.tp (.cons (.nm 2) (.cons (.nm 3) .nil))) (.enum (.var 1)) (.seq (.ifs (.isN false (.call 4 (.cons (.var 0) (.cons (.var 3) .nil)))) (.seq (.ret (.var 2))
    .nil) .nil)
    .nil))
    (.seq (.ret (.lit .none))
    .nil))⟩
def d_first_no_rule : Dd := ⟨20, "first_no_rule", [PySem.Str.ofString "n", PySem.Str.ofString "rules", PySem.Str.ofString "at", PySem.Str.ofString "rule"], [PySem.Str.ofString "n", PySem.Str.ofString "rules"], false⟩
/-- made_book -/
def f_made_book : FDef := ⟨1, 3, [false],
    (.seq (.asg (.nm 1) (.call 8 (.cons (.var 0) .nil)))
    (.seq (.ifs (.isN false (.var 1)) (.seq (.rais 4 (.var 1))
    .nil) .nil)
    (.seq (.ifs (.cmp .gt (.blt .len (.cons (.ix (.var 0) (.lit (.int 1))) .nil)) (.glb "MOST_RULES" (.int 24))) (.seq (.rais 2 (.blt .len (.cons (.ix (.var 0) (.lit (.int 1))) .nil)))
    .nil) .nil)
    (.seq (.asg (.nm 2) (.call 9 (.cons (.ix (.var 0) (.lit (.int 0))) (.cons (.ix (.var 0) (.lit (.int 1))) .nil))))
    (.seq (.ifs (.isN false (.var 2)) (.seq (.rais 4 (.tup (.cons (.lit (.int 1)) (.cons (.var 2) .nil))))
    .nil) .nil)
    (.seq (.ret (.var 0))
    .nil))))))⟩
def d_made_book : Dd := ⟨21, "made_book", [PySem.Str.ofString "thing", PySem.Str.ofString "wrong", PySem.Str.ofString "at"], [PySem.Str.ofString "thing"], false⟩
/-- is_book -/
def f_is_book : FDef := ⟨1, 1, [false],
    (.seq (.ifs (.orr (.cons (.isN false (.call 8 (.cons (.var 0) .nil))) (.cons (.cmp .gt (.blt .len (.cons (.ix (.var 0) (.lit (.int 1))) .nil)) (.glb "MOST_RULES" (.int 24))) .nil))) (.seq (.ret (.lit (.bool false)))
    .nil) .nil)
    (.seq (.ret (.isN true (.call 9 (.cons (.ix (.var 0) (.lit (.int 0))) (.cons (.ix (.var 0) (.lit (.int 1))) .nil)))))
    .nil))⟩
def d_is_book : Dd := ⟨22, "is_book", [PySem.Str.ofString "thing"], [PySem.Str.ofString "thing"], false⟩
/-- is_weight -/
def f_is_weight : FDef := ⟨1, 1, [false],
    (.seq (.ret (.an (.cons (.call 0 (.cons (.var 0) .nil)) (.cons (.cmp .ge (.var 0) (.lit (.int 0))) .nil))))
    .nil)⟩
def d_is_weight : Dd := ⟨23, "is_weight", [PySem.Str.ofString "thing"], [PySem.Str.ofString "thing"], false⟩
/-- made_weights -/
def f_made_weights : FDef := ⟨2, 4, [false, false],
    (.seq (.expr (.call 2 (.cons (.var 0) (.cons (.lit (.int 0)) (.cons (.glb "MOST_RULES" (.int 24)) .nil)))))
    (.seq (.ifs (.orr (.cons (.nt (.inst (.var 1) .tuple)) (.cons (.cmp .ne (.blt .len (.cons (.var 1) .nil)) (.var 0)) .nil))) (.seq (.rais 5 (.neg (.lit (.int 1))))
    .nil) .nil)
    (.seq (.forr (.tp (.cons (.nm 2) (.cons (.nm 3) .nil))) (.enum (.var 1)) (.seq (.ifs (.nt (.call 12 (.cons (.var 3) .nil))) (.seq (.rais 5 (.var 2))
    .nil) .nil)
    .nil))
    (.seq (.ret (.var 1))
    .nil))))⟩
def d_made_weights : Dd := ⟨24, "made_weights", [PySem.Str.ofString "m", PySem.Str.ofString "thing", PySem.Str.ofString "at", PySem.Str.ofString "weight"], [PySem.Str.ofString "m", PySem.Str.ofString "thing"], false⟩
/-- _law_pool -/
def f__law_pool : FDef := ⟨1, 5, [true],
    (.seq (.asg (.tp (.cons (.nm 2) (.cons (.nm 3) .nil))) (.tup (.cons (.lit (.int 0)) (.cons (.lit (.int 7)) .nil))))
    (.seq (.forr (.nm 1) (.range1 (.blt .len (.cons (.var 0) .nil))) (.seq (.asg (.nm 4) (.blt .int (.cons (.blt .max (.cons (.ix (.var 0) (.var 1)) (.cons (.bin .sub (.neg (.lit (.int 1))) (.ix (.var 0) (.var 1))) .nil))) .nil)))
    (.seq (.asg (.nm 3) (.bin .mod (.blt .int (.cons (.bin .add (.bin .add (.bin .mul (.var 3) (.lit (.int 48271))) (.bin .mod (.var 4) (.lit (.int 2147483629)))) (.lit (.int 11))) .nil)) (.lit (.int 2147483647))))
    (.seq (.asg (.nm 2) (.ite (.an (.cons (.cmp .ge (.var 4) (.bin .pow (.lit (.int 10)) (.lit (.int 12)))) (.cons (.cmp .lt (.var 2) (.bin .pow (.lit (.int 10)) (.lit (.int 60)))) .nil))) (.blt .int (.cons (.bin .add (.bin .mul (.var 2) (.bin .pow (.lit (.int 10)) (.lit (.int 60)))) (.bin .mod (.var 4) (.bin .pow (.lit (.int 10)) (.lit (.int 60))))) .nil)) (.var 2)))
    .nil))))
    (.seq (.ret (.lst (.cons (.var 2) (.cons (.var 3) (.cons (.lit (.int 0)) .nil)))))
    .nil)))⟩
def d__law_pool : Dd := ⟨26, "_law_pool", [PySem.Str.ofString "script", PySem.Str.ofString "at", PySem.Str.ofString "digits", PySem.Str.ofString "stirred", PySem.Str.ofString "cell"], [PySem.Str.ofString "script"], false⟩
/-- _law_take -/
def f__law_take : FDef := ⟨2, 3, [true, false],
    (.seq (.ifs (.cmp .gt (.ix (.var 0) (.lit (.int 0))) (.lit (.int 0))) (.seq (.asg (.nm 2) (.bin .mod (.blt .int (.cons (.ix (.var 0) (.lit (.int 0))) .nil)) (.var 1)))
    (.seq (.setIx 0 (.lit (.int 0)) (.bin .fdiv (.ix (.var 0) (.lit (.int 0))) (.var 1)))
    (.seq (.ret (.var 2))
    .nil))) .nil)
    (.seq (.setIx 0 (.lit (.int 2)) (.bin .add (.ix (.var 0) (.lit (.int 2))) (.lit (.int 1))))
    (.seq (.setIx 0 (.lit (.int 1)) (.bin .mod (.blt .int (.cons (.bin .add (.bin .add (.bin .mul (.ix (.var 0) (.lit (.int 1))) (.lit (.int 39373))) (.bin .mul (.lit (.int 7919)) (.ix (.var 0) (.lit (.int 2))))) (.lit (.int 7))) .nil)) (.lit (.int 2147483647))))
    (.seq (.ret (.bin .mod (.blt .int (.cons (.bin .fdiv (.bin .mod (.blt .int (.cons (.bin .mul (.ix (.var 0) (.lit (.int 1))) (.ix (.var 0) (.lit (.int 1)))) .nil)) (.lit (.int 2147483629))) (.lit (.int 32))) .nil)) (.var 1)))
    .nil))))⟩
def d__law_take : Dd := ⟨27, "_law_take", [PySem.Str.ofString "jar", PySem.Str.ofString "many", PySem.Str.ofString "found"], [PySem.Str.ofString "jar", PySem.Str.ofString "many"], false⟩
/-- _law_one -/
def f__law_one : FDef := ⟨2, 2, [true, true],
    (.seq (.ret (.ix (.var 1) (.call 15 (.cons (.var 0) (.cons (.blt .len (.cons (.var 1) .nil)) .nil)))))
    .nil)⟩
def d__law_one : Dd := ⟨28, "_law_one", [PySem.Str.ofString "jar", PySem.Str.ofString "things"], [PySem.Str.ofString "jar", PySem.Str.ofString "things"], false⟩
/-- _law_km_is_whole -/
def f__law_km_is_whole : FDef := ⟨1, 1, [false],
    (.seq (.ret (.an (.cons (.inst (.var 0) .int) (.cons (.nt (.inst (.var 0) .bool)) .nil))))
    .nil)⟩
def d__law_km_is_whole : Dd := ⟨29, "_law_km_is_whole", [PySem.Str.ofString "thing"], [PySem.Str.ofString "thing"], false⟩
/-- _law_km_is_in -/
def f__law_km_is_in : FDef := ⟨3, 3, [false, false, false],
    (.seq (.ret (.an (.cons (.call 17 (.cons (.var 0) .nil)) (.cons (.chn .le .le (.var 1) (.var 0) (.var 2)) .nil))))
    .nil)⟩
def d__law_km_is_in : Dd := ⟨30, "_law_km_is_in", [PySem.Str.ofString "thing", PySem.Str.ofString "low", PySem.Str.ofString "high"], [PySem.Str.ofString "thing", PySem.Str.ofString "low", PySem.Str.ofString "high"], false⟩
/-- _law_km_same -/
def f__law_km_same : FDef := ⟨2, 7, [false, false],
    (.seq (.asg (.nm 2) (.lst (.cons (.tup (.cons (.var 0) (.cons (.var 1) .nil))) .nil)))
    (.seq (.whl (.cmp .ne (.var 2) (.lst .nil)) (.seq (.asg (.tp (.cons (.nm 3) (.cons (.nm 4) .nil))) (.meth .pop (.var 2) .nil))
    (.seq (.ifs (.isN true (.var 4)) (.seq (.asg (.nm 5) (.isN true (.var 3)))
    .nil) (.seq (.ifs (.inst (.var 4) .bool) (.seq (.asg (.nm 5) (.an (.cons (.inst (.var 3) .bool) (.cons (.cmp .eq (.var 3) (.var 4)) .nil))))
    .nil) (.seq (.ifs (.inst (.var 4) .int) (.seq (.asg (.nm 5) (.an (.cons (.call 17 (.cons (.var 3) .nil)) (.cons (.cmp .eq (.var 3) (.var 4)) .nil))))
    .nil) (.seq (.ifs (.inst (.var 4) .str) (.seq (.asg (.nm 5) (.an (.cons (.inst (.var 3) .str) (.cons (.cmp .eq (.var 3) (.var 4)) .nil))))
    .nil) (.seq (.asg (.nm 5) (.ite (.inst (.var 4) .tuple) (.inst (.var 3) .tuple) (.inst (.var 3) .list)))
    (.seq (.asg (.nm 5) (.an (.cons (.var 5) (.cons (.cmp .eq (.blt .len (.cons (.var 3) .nil)) (.blt .len (.cons (.var 4) .nil))) .nil))))
    (.seq (.expr (.meth .extend (.var 2) (.cons (.ite (.var 5) (.comp (.tup (.cons (.ix (.var 3) (.var 6)) (.cons (.ix (.var 4) (.var 6)) .nil))) (.nm 6) (.range1 (.blt .len (.cons (.var 4) .nil))) .nil [6]) (.lst .nil)) .nil)))
    .nil))))
    .nil))
    .nil))
    .nil))
    (.seq (.ifs (.nt (.var 5)) (.seq (.ret (.lit (.bool false)))
    .nil) .nil)
    .nil))))
    (.seq (.ret (.lit (.bool true)))
    .nil)))⟩
def d__law_km_same : Dd := ⟨31, "_law_km_same", [PySem.Str.ofString "heard", PySem.Str.ofString "owed", PySem.Str.ofString "todo", PySem.Str.ofString "one", PySem.Str.ofString "due", PySem.Str.ofString "is_so", PySem.Str.ofString "at"], [PySem.Str.ofString "heard", PySem.Str.ofString "owed"], false⟩
/-- _law_km_rule_fault -/
def f__law_km_rule_fault : FDef := ⟨2, 5, [false, false],
    (.seq (.ifs (.orr (.cons (.nt (.inst (.var 1) .tuple)) (.cons (.cmp .ne (.blt .len (.cons (.var 1) .nil)) (.bin .add (.var 0) (.lit (.int 1)))) .nil))) (.seq (.ret (.neg (.lit (.int 1))))
    .nil) .nil)
    (.seq (.asg (.nm 2) (.comp (.var 3) (.nm 3) (.range1 (.blt .len (.cons (.var 1) .nil))) (.cons (.nt (.call 17 (.cons (.ix (.var 1) (.var 3)) .nil))) .nil) [3]))
    (.seq (.ifs (.cmp .ne (.var 2) (.lst .nil)) (.seq (.ret (.ix (.var 2) (.lit (.int 0))))
    .nil) .nil)
    (.seq (.ret (.ite (.cmp .eq (.comp (.var 4) (.nm 4) (.slc (.var 1) (.lit (.int 1)) .nop) (.cons (.cmp .ne (.var 4) (.lit (.int 0))) .nil) [4]) (.lst .nil)) (.neg (.lit (.int 2))) (.lit .none)))
    .nil))))⟩
def d__law_km_rule_fault : Dd := ⟨32, "_law_km_rule_fault", [PySem.Str.ofString "n", PySem.Str.ofString "thing", PySem.Str.ofString "wrong", PySem.Str.ofString "at", PySem.Str.ofString "pull"], [PySem.Str.ofString "n", PySem.Str.ofString "thing"], false⟩
/-- _law_km_book_fault -/
def f__law_km_book_fault : FDef := ⟨1, 3, [false],
    (.seq (.ifs (.orr (.cons (.nt (.inst (.var 0) .tuple)) (.cons (.cmp .ne (.blt .len (.cons (.var 0) .nil)) (.lit (.int 2))) .nil))) (.seq (.ret (.tup (.cons (.lit (.str "BadBook")) (.cons (.neg (.lit (.int 1))) .nil))))
    .nil) .nil)
    (.seq (.ifs (.nt (.call 18 (.cons (.ix (.var 0) (.lit (.int 0))) (.cons (.lit (.int 0)) (.cons (.lit (.int 12)) .nil))))) (.seq (.ret (.tup (.cons (.lit (.str "BadBook")) (.cons (.lit (.int 0)) .nil))))
    .nil) .nil)
    (.seq (.ifs (.nt (.inst (.ix (.var 0) (.lit (.int 1))) .tuple)) (.seq (.ret (.tup (.cons (.lit (.str "BadBook")) (.cons (.lit (.int 1)) .nil))))
    .nil) .nil)
    (.seq (.ifs (.cmp .gt (.blt .len (.cons (.ix (.var 0) (.lit (.int 1))) .nil)) (.lit (.int 24))) (.seq (.ret (.tup (.cons (.lit (.str "TooMany")) (.cons (.blt .len (.cons (.ix (.var 0) (.lit (.int 1))) .nil)) .nil))))
    .nil) .nil)
    (.seq (.asg (.nm 1) (.comp (.var 2) (.nm 2) (.range1 (.blt .len (.cons (.ix (.var 0) (.lit (.int 1))) .nil))) (.cons (.isN false (.call 20 (.cons (.ix (.var 0) (.lit (.int 0))) (.cons (.ix (.ix (.var 0) (.lit (.int 1))) (.var 2)) .nil)))) .nil) [2]))
    (.seq (.ret (.ite (.cmp .ne (.var 1) (.lst .nil)) (.tup (.cons (.lit (.str "BadBook")) (.cons (.tup (.cons (.lit (.int 1)) (.cons (.ix (.var 1) (.lit (.int 0))) .nil))) .nil))) (.lit .none)))
    .nil))))))⟩
def d__law_km_book_fault : Dd := ⟨33, "_law_km_book_fault", [PySem.Str.ofString "thing", PySem.Str.ofString "wrong", PySem.Str.ofString "at"], [PySem.Str.ofString "thing"], false⟩
/-- _law_km_weights_fault -/
def f__law_km_weights_fault : FDef := ⟨2, 4, [false, false],
    (.seq (.ifs (.orr (.cons (.nt (.inst (.var 1) .tuple)) (.cons (.cmp .ne (.blt .len (.cons (.var 1) .nil)) (.var 0)) .nil))) (.seq (.ret (.neg (.lit (.int 1))))
    .nil) .nil)
    (.seq (.asg (.nm 2) (.comp (.var 3) (.nm 3) (.range1 (.var 0)) (.cons (.orr (.cons (.nt (.call 17 (.cons (.ix (.var 1) (.var 3)) .nil))) (.cons (.cmp .lt (.ix (.var 1) (.var 3)) (.lit (.int 0))) .nil))) .nil) [3]))
    (.seq (.ret (.ite (.cmp .ne (.var 2) (.lst .nil)) (.ix (.var 2) (.lit (.int 0))) (.lit .none)))
    .nil)))⟩
def d__law_km_weights_fault : Dd := ⟨34, "_law_km_weights_fault", [PySem.Str.ofString "m", PySem.Str.ofString "thing", PySem.Str.ofString "wrong", PySem.Str.ofString "at"], [PySem.Str.ofString "m", PySem.Str.ofString "thing"], false⟩
/-- _law_km_number -/
def f__law_km_number : FDef := ⟨1, 2, [true],
    (.seq (.asg (.nm 1) (.call 16 (.cons (.var 0) (.cons (.lst (.cons (.lit (.int 0)) (.cons (.lit (.int 1)) (.cons (.lit (.int 1)) (.cons (.lit (.int 2)) (.cons (.lit (.int 2)) (.cons (.lit (.int 3)) (.cons (.lit (.int 4)) (.cons (.lit (.int 6)) (.cons (.call 15 (.cons (.var 0) (.cons (.lit (.int 13)) .nil))) (.cons (.call 15 (.cons (.var 0) (.cons (.lit (.int 1000)) .nil))) .nil))))))))))) .nil))))
    (.seq (.asg (.nm 1) (.ite (.cmp .eq (.call 15 (.cons (.var 0) (.cons (.lit (.int 25)) .nil))) (.lit (.int 0))) (.call 16 (.cons (.var 0) (.cons (.lst (.cons (.bin .add (.bin .pow (.lit (.int 10)) (.lit (.int 40))) (.lit (.int 7))) (.cons (.bin .mul (.lit (.int 6)) (.bin .pow (.lit (.int 10)) (.lit (.int 20)))) (.cons (.bin .pow (.lit (.int 2)) (.lit (.int 61))) .nil)))) .nil))) (.var 1)))
    (.seq (.ret (.ite (.cmp .eq (.call 15 (.cons (.var 0) (.cons (.lit (.int 2)) .nil))) (.lit (.int 0))) (.neg (.var 1)) (.var 1)))
    .nil)))⟩
def d__law_km_number : Dd := ⟨35, "_law_km_number", [PySem.Str.ofString "jar", PySem.Str.ofString "found"], [PySem.Str.ofString "jar"], false⟩
/-- _law_km_rule -/
def f__law_km_rule : FDef := ⟨2, 7, [true, false],
    (.seq (.asg (.nm 2) (.comp (.call 16 (.cons (.var 0) (.cons (.lst (.cons (.lit (.int 0)) (.cons (.lit (.int 0)) (.cons (.lit (.int 1)) (.cons (.lit (.int 1)) (.cons (.neg (.lit (.int 1))) (.cons (.neg (.lit (.int 1))) (.cons (.lit (.int 2)) (.cons (.neg (.lit (.int 2))) (.cons (.lit (.int 3)) .nil)))))))))) .nil))) (.nm 4) (.range1 (.var 1)) .nil [4]))
    (.seq (.ifs (.cmp .eq (.call 15 (.cons (.var 0) (.cons (.lit (.int 6)) .nil))) (.lit (.int 0))) (.seq (.asg (.nm 2) (.comp (.call 23 (.cons (.var 0) .nil)) (.nm 4) (.range1 (.var 1)) .nil [4]))
    .nil) .nil)
    (.seq (.ifs (.cmp .eq (.comp (.var 5) (.nm 5) (.var 2) (.cons (.cmp .ne (.var 5) (.lit (.int 0))) .nil) [5]) (.lst .nil)) (.seq (.setIx 2 (.call 15 (.cons (.var 0) (.cons (.var 1) .nil))) (.call 16 (.cons (.var 0) (.cons (.lst (.cons (.lit (.int 1)) (.cons (.neg (.lit (.int 1))) (.cons (.lit (.int 2)) (.cons (.neg (.lit (.int 3))) .nil))))) .nil))))
    .nil) .nil)
    (.seq (.asg (.nm 3) (.call 16 (.cons (.var 0) (.cons (.lst (.cons (.lit (.int 1)) (.cons (.lit (.int 1)) (.cons (.lit (.int 1)) (.cons (.lit (.int 2)) (.cons (.lit (.int 3)) (.cons (.lit (.int 5)) .nil))))))) .nil))))
    (.seq (.ret (.blt .tuple (.cons (.comp (.bin .mul (.var 3) (.var 6)) (.nm 6) (.bin .add (.lst (.cons (.call 16 (.cons (.var 0) (.cons (.lst (.cons (.lit (.int 0)) (.cons (.lit (.int 1)) (.cons (.neg (.lit (.int 1))) (.cons (.lit (.int 2)) (.cons (.neg (.lit (.int 4))) (.cons (.lit (.int 6)) (.cons (.call 23 (.cons (.var 0) .nil)) .nil)))))))) .nil))) .nil)) (.var 2)) .nil [6]) .nil)))
    .nil)))))⟩
def d__law_km_rule : Dd := ⟨36, "_law_km_rule", [PySem.Str.ofString "jar", PySem.Str.ofString "n", PySem.Str.ofString "pulls", PySem.Str.ofString "by", PySem.Str.ofString "z", PySem.Str.ofString "pull", PySem.Str.ofString "one"], [PySem.Str.ofString "jar", PySem.Str.ofString "n"], false⟩
/-- _law_km_entries -/
def f__law_km_entries : FDef := ⟨2, 2, [true, false],
    (.seq (.ret (.blt .max (.cons (.var 1) (.cons (.call 16 (.cons (.var 0) (.cons (.lst (.cons (.lit (.int 0)) (.cons (.lit (.int 1)) (.cons (.lit (.int 1)) (.cons (.lit (.int 2)) (.cons (.lit (.int 2)) (.cons (.lit (.int 3)) (.cons (.lit (.int 3)) (.cons (.lit (.int 4)) (.cons (.lit (.int 5)) (.cons (.lit (.int 12)) .nil))))))))))) .nil))) .nil))))
    .nil)⟩
def d__law_km_entries : Dd := ⟨37, "_law_km_entries", [PySem.Str.ofString "jar", PySem.Str.ofString "from_now"], [PySem.Str.ofString "jar", PySem.Str.ofString "from_now"], false⟩
/-- _law_km_book -/
def f__law_km_book : FDef := ⟨1, 6, [true],
    (.seq (.asg (.nm 1) (.call 25 (.cons (.var 0) (.cons (.lit (.int 0)) .nil))))
    (.seq (.asg (.nm 2) (.comp (.call 24 (.cons (.var 0) (.cons (.var 1) .nil))) (.nm 4) (.range1 (.ite (.cmp .gt (.var 1) (.lit (.int 0))) (.call 16 (.cons (.var 0) (.cons (.lst (.cons (.lit (.int 0)) (.cons (.lit (.int 1)) (.cons (.lit (.int 2)) (.cons (.lit (.int 3)) (.cons (.lit (.int 4)) (.cons (.lit (.int 5)) (.cons (.lit (.int 8)) (.cons (.lit (.int 24)) .nil))))))))) .nil))) (.lit (.int 0)))) .nil [4]))
    (.seq (.ifs (.an (.cons (.cmp .ne (.var 2) (.lst .nil)) (.cons (.cmp .lt (.blt .len (.cons (.var 2) .nil)) (.lit (.int 24))) (.cons (.cmp .eq (.call 15 (.cons (.var 0) (.cons (.lit (.int 3)) .nil))) (.lit (.int 0))) .nil)))) (.seq (.asg (.nm 3) (.call 16 (.cons (.var 0) (.cons (.var 2) .nil))))
    (.seq (.expr (.meth .append (.var 2) (.cons (.call 16 (.cons (.var 0) (.cons (.lst (.cons (.var 3) (.cons (.blt .tuple (.cons (.comp (.neg (.var 5)) (.nm 5) (.var 3) .nil [5]) .nil)) .nil))) .nil))) .nil)))
    .nil)) .nil)
    (.seq (.ret (.tup (.cons (.var 1) (.cons (.blt .tuple (.cons (.var 2) .nil)) .nil))))
    .nil))))⟩
def d__law_km_book : Dd := ⟨38, "_law_km_book", [PySem.Str.ofString "jar", PySem.Str.ofString "n", PySem.Str.ofString "rules", PySem.Str.ofString "one", PySem.Str.ofString "go", PySem.Str.ofString "number"], [PySem.Str.ofString "jar"], false⟩
/-- _law_km_bent -/
def f__law_km_bent : FDef := ⟨2, 6, [true, false],
    (.seq (.asg (.nm 2) (.call 16 (.cons (.var 0) (.cons (.lst (.cons (.lit .none) (.cons (.lit (.str "0")) (.cons (.lit (.bool true)) (.cons (.lit (.bool false)) (.cons (.neg (.lit (.int 1))) (.cons (.lit (.int 0)) (.cons (.bin .pow (.lit (.int 10)) (.lit (.int 25))) (.cons (.tup .nil) (.cons (.tup (.cons (.lit (.int 0)) .nil)) (.cons (.lst (.cons (.lit (.int 0)) .nil)) (.cons (.lit (.str "rule")) .nil)))))))))))) .nil))))
    (.seq (.ifs (.orr (.cons (.nt (.inst (.var 1) .tuple)) (.cons (.cmp .eq (.var 1) (.tup .nil)) .nil))) (.seq (.ret (.var 2))
    .nil) .nil)
    (.seq (.par [4, 5] (.cons (.call 15 (.cons (.var 0) (.cons (.blt .len (.cons (.var 1) .nil)) .nil))) (.cons (.call 15 (.cons (.var 0) (.cons (.lit (.int 9)) .nil))) .nil)))
    (.seq (.ifs (.cmp .lt (.var 5) (.lit (.int 3))) (.seq (.ret (.bin .add (.bin .add (.slc (.var 1) .nop (.var 4)) (.tup (.cons (.call 27 (.cons (.var 0) (.cons (.ix (.var 1) (.var 4)) .nil))) .nil))) (.slc (.var 1) (.bin .add (.var 4) (.lit (.int 1))) .nop)))
    .nil) .nil)
    (.seq (.asg (.nm 3) (.lst (.cons (.bin .add (.bin .add (.slc (.var 1) .nop (.var 4)) (.tup (.cons (.var 2) .nil))) (.slc (.var 1) (.bin .add (.var 4) (.lit (.int 1))) .nop)) (.cons (.bin .add (.slc (.var 1) .nop (.var 4)) (.slc (.var 1) (.bin .add (.var 4) (.lit (.int 1))) .nop)) (.cons (.bin .add (.slc (.var 1) .nop (.bin .add (.var 4) (.lit (.int 1)))) (.slc (.var 1) (.var 4) .nop)) .nil)))))
    (.seq (.expr (.meth .extend (.var 3) (.cons (.lst (.cons (.bin .add (.slc (.var 1) .nop (.var 4)) (.rev (.slc (.var 1) (.var 4) .nop))) (.cons (.blt .list (.cons (.var 1) .nil)) (.cons (.bin .add (.var 1) (.tup (.cons (.var 2) .nil))) .nil)))) .nil)))
    (.seq (.ret (.ix (.var 3) (.bin .sub (.var 5) (.lit (.int 3)))))
    .nil)))))))⟩
def d__law_km_bent : Dd := ⟨39, "_law_km_bent", [PySem.Str.ofString "jar", PySem.Str.ofString "thing", PySem.Str.ofString "odd", PySem.Str.ofString "some", PySem.Str.ofString "at", PySem.Str.ofString "form"], [PySem.Str.ofString "jar", PySem.Str.ofString "thing"], false⟩
/-- _law_fm_wrong_rules -/
def f__law_fm_wrong_rules : FDef := ⟨3, 11, [true, false, false],
    (.seq (.par [6, 7] (.cons (.call 15 (.cons (.var 0) (.cons (.bin .add (.var 1) (.lit (.int 1))) .nil))) (.cons (.call 15 (.cons (.var 0) (.cons (.bin .add (.var 1) (.lit (.int 1))) .nil))) .nil)))
    (.seq (.asg (.nm 3) (.lst (.cons (.var 2) (.cons (.blt .tuple (.cons (.comp (.bin .mul (.lit (.int 3)) (.var 10)) (.nm 10) (.var 2) .nil [10]) .nil)) (.cons (.bin .add (.tup (.cons (.ix (.var 2) (.lit (.int 0))) .nil)) (.bin .mul (.tup (.cons (.lit (.int 0)) .nil)) (.var 1))) (.cons (.bin .mul (.tup (.cons (.lit (.int 0)) .nil)) (.bin .add (.var 1) (.lit (.int 1)))) (.cons (.bin .add (.var 2) (.tup (.cons (.lit (.int 0)) .nil))) .nil)))))))
    (.seq (.expr (.meth .extend (.var 3) (.cons (.lst (.cons (.slc (.var 2) .nop (.neg (.lit (.int 1)))) (.cons (.blt .list (.cons (.var 2) .nil)) (.cons (.lit .none) (.cons (.lit (.int 7)) (.cons (.lit (.str "rule")) (.cons (.tup .nil) (.cons (.tup (.cons (.var 2) .nil)) (.cons (.bin .add (.tup (.cons (.lit (.bool true)) .nil)) (.slc (.var 2) (.lit (.int 1)) .nop)) (.cons (.bin .add (.slc (.var 2) .nop (.neg (.lit (.int 1)))) (.tup (.cons (.lit (.bool false)) .nil))) .nil)))))))))) .nil)))
    (.seq (.expr (.meth .append (.var 3) (.cons (.bin .add (.slc (.var 2) .nop (.neg (.lit (.int 1)))) (.tup (.cons (.bin .pow (.lit (.int 10)) (.lit (.int 64))) .nil))) .nil)))
    (.seq (.forr (.nm 4) (.lst (.cons (.lit .none) (.cons (.lit (.str "1")) (.cons (.lit (.bool true)) (.cons (.tup (.cons (.lit (.int 1)) .nil)) (.cons (.lst (.cons (.lit (.int 1)) .nil)) (.cons (.tup .nil) .nil))))))) (.seq (.expr (.meth .append (.var 3) (.cons (.bin .add (.bin .add (.slc (.var 2) .nop (.var 6)) (.tup (.cons (.var 4) .nil))) (.slc (.var 2) (.bin .add (.var 6) (.lit (.int 1))) .nop)) .nil)))
    .nil))
    (.seq (.par [8, 9] (.cons (.blt .min (.cons (.blt .int (.cons (.var 6) .nil)) (.cons (.blt .int (.cons (.var 7) .nil)) .nil))) (.cons (.blt .max (.cons (.blt .int (.cons (.var 6) .nil)) (.cons (.blt .int (.cons (.var 7) .nil)) .nil))) .nil)))
    (.seq (.asg (.nm 5) (.bin .add (.bin .add (.slc (.var 2) .nop (.var 8)) (.tup (.cons (.lit .none) .nil))) (.slc (.var 2) (.bin .add (.var 8) (.lit (.int 1))) .nop)))
    (.seq (.expr (.meth .append (.var 3) (.cons (.bin .add (.bin .add (.slc (.var 5) .nop (.var 9)) (.tup (.cons (.lit (.str "0")) .nil))) (.slc (.var 5) (.bin .add (.var 9) (.lit (.int 1))) .nop)) .nil)))
    (.seq (.expr (.meth .extend (.var 3) (.cons (.lst (.cons (.bin .add (.bin .mul (.tup (.cons (.lit (.int 0)) .nil)) (.var 1)) (.tup (.cons (.lit .none) .nil))) (.cons (.bin .add (.bin .mul (.tup (.cons (.lit (.int 0)) .nil)) (.var 1)) (.tup (.cons (.lit (.bool true)) .nil))) (.cons (.bin .add (.bin .add (.tup (.cons (.lit (.int 1)) .nil)) (.bin .mul (.tup (.cons (.lit (.int 0)) .nil)) (.bin .sub (.var 1) (.lit (.int 1))))) (.tup (.cons (.neg (.lit (.int 1))) .nil))) .nil)))) .nil)))
    (.seq (.ret (.bin .add (.var 3) (.lst (.cons (.call 27 (.cons (.var 0) (.cons (.var 2) .nil))) (.cons (.call 27 (.cons (.var 0) (.cons (.call 27 (.cons (.var 0) (.cons (.var 2) .nil))) .nil))) .nil)))))
    .nil))))))))))⟩
def d__law_fm_wrong_rules : Dd := ⟨41, "_law_fm_wrong_rules", [PySem.Str.ofString "jar", PySem.Str.ofString "n", PySem.Str.ofString "rule", PySem.Str.ofString "some", PySem.Str.ofString "odd", PySem.Str.ofString "bent", PySem.Str.ofString "at", PySem.Str.ofString "to", PySem.Str.ofString "low", PySem.Str.ofString "high", PySem.Str.ofString "number"], [PySem.Str.ofString "jar", PySem.Str.ofString "n", PySem.Str.ofString "rule"], false⟩
/-- _law_fm_rules_right -/
def f__law_fm_rules_right : FDef := ⟨1, 5, [true],
    (.seq (.asg (.nm 1) (.call 25 (.cons (.var 0) (.cons (.lit (.int 1)) .nil))))
    (.seq (.forr (.nm 2) (.call 28 (.cons (.var 0) (.cons (.var 1) (.cons (.call 24 (.cons (.var 0) (.cons (.var 1) .nil))) .nil)))) (.seq (.asg (.nm 3) (.call 20 (.cons (.var 1) (.cons (.var 2) .nil))))
    (.seq (.asg (.nm 4) (.told 0 (.call 6 (.cons (.var 1) (.cons (.var 2) .nil)))))
    (.seq (.ifs (.nt (.call 19 (.cons (.var 4) (.cons (.ite (.isN true (.var 3)) (.tup (.cons (.lit (.str "told")) (.cons (.var 2) .nil))) (.tup (.cons (.lit (.str "BadRule")) (.cons (.var 3) .nil)))) .nil)))) (.seq (.ret (.lit (.bool false)))
    .nil) .nil)
    (.seq (.ifs (.nt (.call 19 (.cons (.told 0 (.call 7 (.cons (.var 1) (.cons (.var 2) .nil)))) (.cons (.tup (.cons (.lit (.str "told")) (.cons (.isN true (.var 3)) .nil))) .nil)))) (.seq (.ret (.lit (.bool false)))
    .nil) .nil)
    .nil)))))
    (.seq (.ret (.lit (.bool true)))
    .nil)))⟩
def d__law_fm_rules_right : Dd := ⟨42, "_law_fm_rules_right", [PySem.Str.ofString "jar", PySem.Str.ofString "n", PySem.Str.ofString "thing", PySem.Str.ofString "fault", PySem.Str.ofString "told"], [PySem.Str.ofString "jar"], true⟩
/-- _law_fm_wrong_books -/
def f__law_fm_wrong_books : FDef := ⟨2, 7, [true, false],
    (.seq (.asg (.tp (.cons (.nm 3) (.cons (.nm 4) .nil))) (.var 1))
    (.seq (.asg (.nm 2) (.lst (.cons (.var 1) (.cons (.tup (.cons (.var 3) .nil)) (.cons (.bin .add (.var 1) (.tup (.cons (.tup .nil) .nil))) (.cons (.blt .list (.cons (.var 1) .nil)) (.cons (.lit .none) (.cons (.var 3) (.cons (.tup .nil) (.cons (.tup (.cons (.var 3) (.cons (.var 4) (.cons (.lit .none) .nil)))) (.cons (.tup (.cons (.var 3) (.cons (.blt .list (.cons (.var 4) .nil)) .nil))) (.cons (.tup (.cons (.var 3) (.cons (.lit .none) .nil))) (.cons (.tup (.cons (.var 3) (.cons (.lit (.int 0)) .nil))) .nil)))))))))))))
    (.seq (.expr (.meth .extend (.var 2) (.cons (.lst (.cons (.tup (.cons (.lit (.int 13)) (.cons (.tup .nil) .nil))) (.cons (.tup (.cons (.neg (.lit (.int 1))) (.cons (.tup .nil) .nil))) (.cons (.tup (.cons (.lit (.bool true)) (.cons (.tup .nil) .nil))) (.cons (.tup (.cons (.lit .none) (.cons (.tup .nil) .nil))) (.cons (.tup (.cons (.lit (.str "1")) (.cons (.var 4) .nil))) (.cons (.tup (.cons (.lit (.int 13)) (.cons (.lit .none) .nil))) (.cons (.tup (.cons (.lit (.int 12)) (.cons (.tup .nil) .nil))) (.cons (.tup (.cons (.lit (.int 0)) (.cons (.tup .nil) .nil))) (.cons (.tup (.cons (.var 3) (.cons (.lit (.str "r")) .nil))) .nil)))))))))) .nil)))
    (.seq (.expr (.meth .extend (.var 2) (.cons (.lst (.cons (.tup (.cons (.bin .add (.var 3) (.lit (.int 1))) (.cons (.var 4) .nil))) (.cons (.tup (.cons (.var 3) (.cons (.bin .add (.var 4) (.tup (.cons (.lit .none) .nil))) .nil))) (.cons (.tup (.cons (.var 3) (.cons (.bin .add (.var 4) (.tup (.cons (.bin .mul (.tup (.cons (.lit (.int 0)) .nil)) (.bin .add (.var 3) (.lit (.int 1)))) .nil))) .nil))) (.cons (.tup (.cons (.var 3) (.cons (.bin .add (.var 4) (.tup (.cons (.bin .mul (.tup (.cons (.lit (.int 1)) .nil)) (.lit (.int 14))) .nil))) .nil))) .nil))))) .nil)))
    (.seq (.expr (.meth .extend (.var 2) (.cons (.lst (.cons (.tup (.cons (.var 3) (.cons (.bin .add (.var 4) (.tup (.cons (.bin .mul (.tup (.cons (.lit (.bool true)) .nil)) (.bin .add (.var 3) (.lit (.int 1)))) .nil))) .nil))) (.cons (.tup (.cons (.var 3) (.cons (.bin .add (.tup (.cons (.lit .none) .nil)) (.var 4)) .nil))) (.cons (.tup (.cons (.var 3) (.cons (.rev (.var 4)) .nil))) (.cons (.tup (.cons (.var 3) (.cons (.bin .mul (.var 4) (.lit (.int 2))) .nil))) .nil))))) .nil)))
    (.seq (.ifs (.cmp .ne (.var 4) (.tup .nil)) (.seq (.asg (.nm 5) (.call 15 (.cons (.var 0) (.cons (.blt .len (.cons (.var 4) .nil)) .nil))))
    (.seq (.forr (.nm 6) (.lst (.cons (.bin .add (.tup (.cons (.ix (.ix (.var 4) (.var 5)) (.lit (.int 0))) .nil)) (.bin .mul (.tup (.cons (.lit (.int 0)) .nil)) (.var 3))) (.cons (.blt .list (.cons (.ix (.var 4) (.var 5)) .nil)) (.cons (.slc (.ix (.var 4) (.var 5)) (.lit (.int 1)) .nop) (.cons (.bin .add (.slc (.ix (.var 4) (.var 5)) .nop (.neg (.lit (.int 1)))) (.tup (.cons (.lit .none) .nil))) (.cons (.tup .nil) .nil)))))) (.seq (.expr (.meth .append (.var 2) (.cons (.tup (.cons (.var 3) (.cons (.bin .add (.bin .add (.slc (.var 4) .nop (.var 5)) (.tup (.cons (.var 6) .nil))) (.slc (.var 4) (.bin .add (.var 5) (.lit (.int 1))) .nop)) .nil))) .nil)))
    .nil))
    (.seq (.expr (.meth .append (.var 2) (.cons (.tup (.cons (.var 3) (.cons (.bin .add (.bin .add (.bin .add (.slc (.var 4) .nop (.var 5)) (.tup (.cons (.lit .none) .nil))) (.slc (.var 4) (.bin .add (.var 5) (.lit (.int 1))) .nop)) (.tup (.cons (.tup .nil) .nil))) .nil))) .nil)))
    .nil))) .nil)
    (.seq (.ret (.bin .add (.var 2) (.lst (.cons (.call 27 (.cons (.var 0) (.cons (.var 1) .nil))) (.cons (.call 27 (.cons (.var 0) (.cons (.call 27 (.cons (.var 0) (.cons (.var 1) .nil))) .nil))) .nil)))))
    .nil)))))))⟩
def d__law_fm_wrong_books : Dd := ⟨43, "_law_fm_wrong_books", [PySem.Str.ofString "jar", PySem.Str.ofString "book", PySem.Str.ofString "some", PySem.Str.ofString "n", PySem.Str.ofString "rules", PySem.Str.ofString "at", PySem.Str.ofString "odd"], [PySem.Str.ofString "jar", PySem.Str.ofString "book"], false⟩
/-- _law_fm_books_right -/
def f__law_fm_books_right : FDef := ⟨1, 4, [true],
    (.seq (.forr (.nm 1) (.call 30 (.cons (.var 0) (.cons (.call 26 (.cons (.var 0) .nil)) .nil))) (.seq (.asg (.nm 2) (.call 21 (.cons (.var 1) .nil)))
    (.seq (.asg (.nm 3) (.told 0 (.call 10 (.cons (.var 1) .nil))))
    (.seq (.ifs (.nt (.call 19 (.cons (.var 3) (.cons (.ite (.isN true (.var 2)) (.tup (.cons (.lit (.str "told")) (.cons (.var 1) .nil))) (.var 2)) .nil)))) (.seq (.ret (.lit (.bool false)))
    .nil) .nil)
    (.seq (.ifs (.nt (.call 19 (.cons (.told 0 (.call 11 (.cons (.var 1) .nil))) (.cons (.tup (.cons (.lit (.str "told")) (.cons (.isN true (.var 2)) .nil))) .nil)))) (.seq (.ret (.lit (.bool false)))
    .nil) .nil)
    .nil)))))
    (.seq (.ret (.lit (.bool true)))
    .nil))⟩
def d__law_fm_books_right : Dd := ⟨44, "_law_fm_books_right", [PySem.Str.ofString "jar", PySem.Str.ofString "thing", PySem.Str.ofString "fault", PySem.Str.ofString "told"], [PySem.Str.ofString "jar"], true⟩
/-- _law_fm_weights_right -/
def f__law_fm_weights_right : FDef := ⟨1, 10, [true],
    (.seq (.asg (.nm 1) (.call 16 (.cons (.var 0) (.cons (.lst (.cons (.lit (.int 0)) (.cons (.lit (.int 1)) (.cons (.lit (.int 2)) (.cons (.lit (.int 3)) (.cons (.lit (.int 5)) (.cons (.lit (.int 24)) (.cons (.call 15 (.cons (.var 0) (.cons (.lit (.int 25)) .nil))) .nil)))))))) .nil))))
    (.seq (.asg (.nm 2) (.blt .tuple (.cons (.comp (.call 16 (.cons (.var 0) (.cons (.lst (.cons (.lit (.int 0)) (.cons (.lit (.int 0)) (.cons (.lit (.int 1)) (.cons (.lit (.int 2)) (.cons (.lit (.int 7)) (.cons (.bin .pow (.lit (.int 10)) (.lit (.int 50))) .nil))))))) .nil))) (.nm 8) (.range1 (.var 1)) .nil [8]) .nil)))
    (.seq (.asg (.nm 3) (.lst (.cons (.var 2) (.cons (.bin .add (.var 2) (.tup (.cons (.lit (.int 0)) .nil))) (.cons (.slc (.var 2) (.lit (.int 1)) .nop) (.cons (.blt .list (.cons (.var 2) .nil)) (.cons (.lit .none) (.cons (.tup (.cons (.var 2) .nil)) (.cons (.lit (.int 0)) (.cons (.call 27 (.cons (.var 0) (.cons (.var 2) .nil))) .nil))))))))))
    (.seq (.ifs (.cmp .gt (.var 1) (.lit (.int 0))) (.seq (.asg (.nm 5) (.call 15 (.cons (.var 0) (.cons (.var 1) .nil))))
    (.seq (.expr (.meth .extend (.var 3) (.cons (.comp (.bin .add (.bin .add (.slc (.var 2) .nop (.var 5)) (.tup (.cons (.var 9) .nil))) (.slc (.var 2) (.bin .add (.var 5) (.lit (.int 1))) .nop)) (.nm 9) (.lst (.cons (.neg (.lit (.int 1))) (.cons (.lit .none) (.cons (.lit (.bool true)) (.cons (.lit (.str "0")) (.cons (.tup (.cons (.lit (.int 0)) .nil)) (.cons (.bin .pow (.lit (.int 10)) (.lit (.int 64))) .nil))))))) .nil [9]) .nil)))
    (.seq (.expr (.meth .append (.var 3) (.cons (.bin .mul (.tup (.cons (.neg (.lit (.int 1))) .nil)) (.var 1)) .nil)))
    .nil))) .nil)
    (.seq (.forr (.nm 4) (.var 3) (.seq (.asg (.nm 6) (.call 22 (.cons (.var 1) (.cons (.var 4) .nil))))
    (.seq (.asg (.nm 7) (.told 0 (.call 13 (.cons (.var 1) (.cons (.var 4) .nil)))))
    (.seq (.ifs (.nt (.call 19 (.cons (.var 7) (.cons (.ite (.isN true (.var 6)) (.tup (.cons (.lit (.str "told")) (.cons (.var 4) .nil))) (.tup (.cons (.lit (.str "BadWeights")) (.cons (.var 6) .nil)))) .nil)))) (.seq (.ret (.lit (.bool false)))
    .nil) .nil)
    .nil))))
    (.seq (.ret (.lit (.bool true)))
    .nil))))))⟩
def d__law_fm_weights_right : Dd := ⟨45, "_law_fm_weights_right", [PySem.Str.ofString "jar", PySem.Str.ofString "m", PySem.Str.ofString "weights", PySem.Str.ofString "things", PySem.Str.ofString "thing", PySem.Str.ofString "at", PySem.Str.ofString "fault", PySem.Str.ofString "told", PySem.Str.ofString "i", PySem.Str.ofString "odd"], [PySem.Str.ofString "jar"], true⟩
/-- _law_fm_first_right -/
def f__law_fm_first_right : FDef := ⟨1, 4, [true],
    (.seq (.asg (.nm 1) (.call 16 (.cons (.var 0) (.cons (.lst (.cons (.lit .none) (.cons (.tup .nil) (.cons (.tup (.cons (.lit (.int 1)) (.cons (.lit (.int 1)) .nil))) (.cons (.tup (.cons (.lit (.int 0)) (.cons (.lit (.int 0)) .nil))) (.cons (.lst (.cons (.lit (.int 1)) .nil)) .nil)))))) .nil))))
    (.seq (.forr (.nm 2) (.lst (.cons (.neg (.lit (.int 1))) (.cons (.lit (.int 13)) (.cons (.lit .none) (.cons (.lit (.bool true)) (.cons (.lit (.str "1")) (.cons (.tup (.cons (.lit (.int 1)) .nil)) (.cons (.neg (.bin .pow (.lit (.int 10)) (.lit (.int 20)))) .nil)))))))) (.seq (.asg (.nm 3) (.lst (.cons (.told 0 (.call 6 (.cons (.var 2) (.cons (.var 1) .nil)))) .nil)))
    (.seq (.expr (.meth .append (.var 3) (.cons (.told 0 (.call 7 (.cons (.var 2) (.cons (.var 1) .nil)))) .nil)))
    (.seq (.ifs (.nt (.call 19 (.cons (.blt .tuple (.cons (.var 3) .nil)) (.cons (.bin .mul (.tup (.cons (.tup (.cons (.lit (.str "BadMany")) (.cons (.var 2) .nil))) .nil)) (.lit (.int 2))) .nil)))) (.seq (.ret (.lit (.bool false)))
    .nil) .nil)
    .nil))))
    (.seq (.forr (.nm 2) (.lst (.cons (.neg (.lit (.int 1))) (.cons (.lit (.int 25)) (.cons (.lit .none) (.cons (.lit (.bool false)) (.cons (.lit (.str "0")) (.cons (.tup .nil) .nil))))))) (.seq (.ifs (.nt (.call 19 (.cons (.told 0 (.call 13 (.cons (.var 2) (.cons (.var 1) .nil)))) (.cons (.tup (.cons (.lit (.str "BadMany")) (.cons (.var 2) .nil))) .nil)))) (.seq (.ret (.lit (.bool false)))
    .nil) .nil)
    .nil))
    (.seq (.ret (.lit (.bool true)))
    .nil))))⟩
def d__law_fm_first_right : Dd := ⟨46, "_law_fm_first_right", [PySem.Str.ofString "jar", PySem.Str.ofString "thing", PySem.Str.ofString "odd", PySem.Str.ofString "told"], [PySem.Str.ofString "jar"], true⟩
/-- _law_fm_bounds_right -/
def f__law_fm_bounds_right : FDef := ⟨1, 5, [true],
    (.seq (.asg (.nm 1) (.blt .tuple (.cons (.comp (.call 24 (.cons (.var 0) (.cons (.lit (.int 12)) .nil))) (.nm 4) (.range1 (.lit (.int 24))) .nil [4]) .nil)))
    (.seq (.asg (.nm 2) (.lst (.cons (.told 0 (.call 10 (.cons (.tup (.cons (.lit (.int 12)) (.cons (.var 1) .nil))) .nil))) .nil)))
    (.seq (.expr (.meth .append (.var 2) (.cons (.told 0 (.call 10 (.cons (.tup (.cons (.lit (.int 12)) (.cons (.bin .add (.var 1) (.slc (.var 1) .nop (.lit (.int 1)))) .nil))) .nil))) .nil)))
    (.seq (.expr (.meth .append (.var 2) (.cons (.told 0 (.call 10 (.cons (.tup (.cons (.lit (.int 12)) (.cons (.bin .mul (.tup (.cons (.lit .none) .nil)) (.lit (.int 25))) .nil))) .nil))) .nil)))
    (.seq (.expr (.meth .append (.var 2) (.cons (.told 0 (.call 11 (.cons (.tup (.cons (.lit (.int 12)) (.cons (.bin .mul (.tup (.cons (.lit .none) .nil)) (.lit (.int 25))) .nil))) .nil))) .nil)))
    (.seq (.expr (.meth .append (.var 2) (.cons (.told 0 (.call 10 (.cons (.tup (.cons (.lit (.int 0)) (.cons (.tup .nil) .nil))) .nil))) .nil)))
    (.seq (.expr (.meth .append (.var 2) (.cons (.told 0 (.call 6 (.cons (.lit (.int 12)) (.cons (.bin .add (.bin .mul (.tup (.cons (.lit (.int 0)) .nil)) (.lit (.int 12))) (.tup (.cons (.neg (.lit (.int 1))) .nil))) .nil)))) .nil)))
    (.seq (.expr (.meth .append (.var 2) (.cons (.told 0 (.call 13 (.cons (.lit (.int 24)) (.cons (.bin .mul (.tup (.cons (.lit (.int 0)) .nil)) (.lit (.int 24))) .nil)))) .nil)))
    (.seq (.asg (.nm 3) (.tup (.cons (.tup (.cons (.lit (.str "told")) (.cons (.tup (.cons (.lit (.int 12)) (.cons (.var 1) .nil))) .nil))) (.cons (.tup (.cons (.lit (.str "TooMany")) (.cons (.lit (.int 25)) .nil))) (.cons (.tup (.cons (.lit (.str "TooMany")) (.cons (.lit (.int 25)) .nil))) (.cons (.tup (.cons (.lit (.str "told")) (.cons (.lit (.bool false)) .nil))) (.cons (.tup (.cons (.lit (.str "told")) (.cons (.tup (.cons (.lit (.int 0)) (.cons (.tup .nil) .nil))) .nil))) .nil)))))))
    (.seq (.asg (.nm 3) (.bin .add (.var 3) (.tup (.cons (.tup (.cons (.lit (.str "told")) (.cons (.bin .add (.bin .mul (.tup (.cons (.lit (.int 0)) .nil)) (.lit (.int 12))) (.tup (.cons (.neg (.lit (.int 1))) .nil))) .nil))) (.cons (.tup (.cons (.lit (.str "told")) (.cons (.bin .mul (.tup (.cons (.lit (.int 0)) .nil)) (.lit (.int 24))) .nil))) .nil)))))
    (.seq (.ret (.call 19 (.cons (.blt .tuple (.cons (.var 2) .nil)) (.cons (.var 3) .nil))))
    .nil)))))))))))⟩
def d__law_fm_bounds_right : Dd := ⟨47, "_law_fm_bounds_right", [PySem.Str.ofString "jar", PySem.Str.ofString "rules", PySem.Str.ofString "told", PySem.Str.ofString "owed", PySem.Str.ofString "go"], [PySem.Str.ofString "jar"], true⟩
/-- law -/
def f_law : FDef := ⟨1, 3, [true],
    (.seq (.asg (.nm 1) (.call 14 (.cons (.var 0) .nil)))
    (.seq (.forr (.nm 2) (.range1 (.lit (.int 5))) (.seq (.ifs (.orr (.cons (.nt (.call 29 (.cons (.var 1) .nil))) (.cons (.nt (.call 31 (.cons (.var 1) .nil))) (.cons (.nt (.call 32 (.cons (.var 1) .nil))) .nil)))) (.seq (.ret (.lit (.bool false)))
    .nil) .nil)
    .nil))
    (.seq (.ret (.an (.cons (.call 33 (.cons (.var 1) .nil)) (.cons (.call 34 (.cons (.var 1) .nil)) .nil))))
    .nil)))⟩
def d_law : Dd := ⟨48, "law", [PySem.Str.ofString "script", PySem.Str.ofString "jar", PySem.Str.ofString "go"], [PySem.Str.ofString "script"], false⟩
def fns : List FDef := [f_is_number, f_whole, f_asked_many, f_first_odd, f_wrong_rule, f_asked_rule, f_made_rule, f_is_rule, f_wrong_outside, f_first_no_rule, f_made_book, f_is_book, f_is_weight, f_made_weights, f__law_pool, f__law_take, f__law_one, f__law_km_is_whole, f__law_km_is_in, f__law_km_same, f__law_km_rule_fault, f__law_km_book_fault, f__law_km_weights_fault, f__law_km_number, f__law_km_rule, f__law_km_entries, f__law_km_book, f__law_km_bent, f__law_fm_wrong_rules, f__law_fm_rules_right, f__law_fm_wrong_books, f__law_fm_books_right, f__law_fm_weights_right, f__law_fm_first_right, f__law_fm_bounds_right, f_law]
def dds : List Dd := [d_is_number, d_whole, d_asked_many, d_first_odd, d_wrong_rule, d_asked_rule, d_made_rule, d_is_rule, d_wrong_outside, d_first_no_rule, d_made_book, d_is_book, d_is_weight, d_made_weights, d__law_pool, d__law_take, d__law_one, d__law_km_is_whole, d__law_km_is_in, d__law_km_same, d__law_km_rule_fault, d__law_km_book_fault, d__law_km_weights_fault, d__law_km_number, d__law_km_rule, d__law_km_entries, d__law_km_book, d__law_km_bent, d__law_fm_wrong_rules, d__law_fm_rules_right, d__law_fm_wrong_books, d__law_fm_books_right, d__law_fm_weights_right, d__law_fm_first_right, d__law_fm_bounds_right, d_law]
end K01
namespace K01
open PySem PySem.Spec PyProof.Rows L2 AM
def subT : List (List Bool) := [[true, false, false, false, false, false], [true, true, false, false, false, false], [true, false, true, false, false, false], [true, false, false, true, false, false], [true, false, false, false, true, false], [true, false, false, false, false, true]]
def hd : Hd := ⟨"_law_fm_heard", "call", "Refused", "refused_one", [PySem.Str.ofString "call", PySem.Str.ofString "refused_one", PySem.Str.ofString "some", PySem.Str.ofString "name", PySem.Str.ofString "is_one"], (.seq (.asg (.nm 2) (.lst (.cons (.tup (.cons (.lit (.str "BadBook")) (.cons (.excIs 1 4) .nil))) (.cons (.tup (.cons (.lit (.str "BadMany")) (.cons (.excIs 1 1) .nil))) .nil))))
    (.seq (.expr (.meth .extend (.var 2) (.cons (.lst (.cons (.tup (.cons (.lit (.str "BadRule")) (.cons (.excIs 1 3) .nil))) (.cons (.tup (.cons (.lit (.str "TooMany")) (.cons (.excIs 1 2) .nil))) .nil))) .nil)))
    (.seq (.expr (.meth .append (.var 2) (.cons (.tup (.cons (.lit (.str "BadWeights")) (.cons (.excIs 1 5) .nil))) .nil)))
    (.seq (.ret (.tup (.cons (.meth .join (.lit (.str " ")) (.cons (.comp (.var 3) (.tp (.cons (.nm 3) (.cons (.nm 4) .nil))) (.var 2) (.cons (.var 4) .nil) [3, 4]) .nil)) (.cons (.what 1) .nil))))
    .nil)))), 40, 0, 1⟩
noncomputable def Γ : Prog := ⟨fns, subOf tb.cnm.length subT, toldS (subOf tb.cnm.length subT) hd⟩
def tfs : List Str := [PySem.Str.ofString "_law_fm_rules_right", PySem.Str.ofString "_law_fm_books_right", PySem.Str.ofString "_law_fm_weights_right", PySem.Str.ofString "_law_fm_first_right", PySem.Str.ofString "_law_fm_bounds_right"]
noncomputable def L : Lw := ⟨tb, dds, Γ, top, tfs, subT⟩
end K01
set_option Elab.async false
set_option linter.all false
set_option maxRecDepth 100000
set_option maxHeartbeats 4000000
namespace K01
open PySem AM
theorem go_is_number (n : Nat) (d : PyData) (h : noD d = true) : (phi Γ (n + 1)).go 0 [.val d] = .ret (.val (.bool (isInt d))) [] := by
  rw [go_succ Γ n 0 _ (fd := f_is_number) rfl]
  cases d <;> first | (cases h; done) | simp [runF, f_is_number, startA, fargS, instOk, instD, trD, isInt, finR, iosOf]
end K01
set_option Elab.async false
set_option linter.all false
set_option maxRecDepth 100000
set_option maxHeartbeats 4000000
namespace K01
open PySem AM
theorem r_num {n : Nat} {d : PyData} (hn : 0 < n) (h : noD d = true) : (phi Γ n).go 0 [.val d] = .ret (.val (.bool (isInt d))) [] := by
  obtain ⟨m, rfl⟩ : ∃ m, n = m + 1 := ⟨n - 1, by omega⟩
  exact go_is_number m d h
theorem r_num2 {n : Nat} {d : PyData} (hn : 0 < n) (h : noD d = true) : (phi Γ n).go 17 [.val d] = .ret (.val (.bool (isInt d))) [] := by
  obtain ⟨m, rfl⟩ : ∃ m, n = m + 1 := ⟨n - 1, by omega⟩
  rw [go_succ Γ m 17 _ (fd := f__law_km_is_whole) rfl]
  cases d <;> first | (cases h; done) | simp [runF, f__law_km_is_whole, startA, fargS, instOk, instD, trD, isInt, finR, iosOf]
theorem r_whole {n : Nat} {d : PyData} {a b : Int} (hn : 1 < n) (h : noD d = true) : (phi Γ n).go 1 [.val d, .val (.int a), .val (.int b)] = .ret (.val (.bool (inI d a b))) [] := by
  obtain ⟨m, rfl⟩ : ∃ m, n = m + 1 := ⟨n - 1, by omega⟩
  rw [go_succ Γ m 1 _ (fd := f_whole) rfl]
  have e := r_num (n := m) (by omega) h
  cases d <;> first | (cases h; done) | (simp [runF, f_whole, startA, fargS, isInt, finR, iosOf, inI, e]; done) | skip
  rename_i i
  by_cases h1 : a ≤ i <;> simp [runF, f_whole, startA, fargS, isInt, finR, iosOf, inI, e, h1]
theorem r_in {n : Nat} {d : PyData} {a b : Int} (hn : 1 < n) (h : noD d = true) : (phi Γ n).go 18 [.val d, .val (.int a), .val (.int b)] = .ret (.val (.bool (inI d a b))) [] := by
  obtain ⟨m, rfl⟩ : ∃ m, n = m + 1 := ⟨n - 1, by omega⟩
  rw [go_succ Γ m 18 _ (fd := f__law_km_is_in) rfl]
  have e := r_num2 (n := m) (by omega) h
  cases d <;> first | (cases h; done) | (simp [runF, f__law_km_is_in, startA, fargS, isInt, finR, iosOf, inI, e]; done) | skip
  rename_i i
  by_cases h1 : a ≤ i <;> simp [runF, f__law_km_is_in, startA, fargS, isInt, finR, iosOf, inI, e, h1]
theorem r_many {n : Nat} {d : PyData} {a b : Int} (hn : 2 < n) (h : noD d = true) : (phi Γ n).go 2 [.val d, .val (.int a), .val (.int b)] = if inI d a b then .ret (.val d) [] else .err 1 d [] := by
  obtain ⟨m, rfl⟩ : ∃ m, n = m + 1 := ⟨n - 1, by omega⟩
  rw [go_succ Γ m 2 _ (fd := f_asked_many) rfl]
  have e := r_whole (n := m) (a := a) (b := b) (by omega) h
  cases h1 : inI d a b <;> simp [runF, f_asked_many, startA, fargS, isInt, finR, iosOf, e, h1]
end K01
set_option Elab.async false
set_option linter.all false
set_option maxRecDepth 100000
set_option maxHeartbeats 4000000
namespace K01
open PySem AM
theorem r_odd {n : Nat} {xs : List PyData} (hn : 1 < n) (h : PyData.canLayAll0 xs = true) : (phi Γ n).go 3 [.val (.tuple xs)] = .ret (.val (fi nonI 0 xs)) [] := by
  obtain ⟨m, rfl⟩ : ∃ m, n = m + 1 := ⟨n - 1, by omega⟩
  rw [go_succ Γ m 3 _ (fd := f_first_odd) rfl]
  obtain ⟨g1, g2⟩ := forL_find (g := (.tp (.cons (.nm 1) (.cons (.nm 2) .nil)))) (b := ex (phi Γ m) (.seq (.ifs (.nt (.call 0 (.cons (.var 2) .nil))) (.seq (.ret (.var 1)) .nil) .nil) .nil))
    (fun s => ∃ a b, s = [some (.val (.tuple xs)), a, b]) (fun s => ∃ a b, s = [some (.val (.tuple xs)), a, b]) (q2 nonI) (fun d => match d with | .tuple [k, _] => .val k | _ => .val .none) (enumD 0 xs) [some (.val (.tuple xs)), none, none]
    (fun d hd s hs => by
      obtain ⟨a, b, rfl⟩ := hs
      obtain ⟨k, x, rfl, hx⟩ := enum_mem (P := fun x => x.canLay0 = true) xs 0 (lay_mem h) d hd
      have e := r_num (n := m) (by omega) (noD_of hx)
      refine ⟨[some (.val (.tuple xs)), some (.val (.int k)), some (.val x)], by simp [bindG, bindGs], fun hp => ?_, fun hp => ?_⟩
      · have hp : isInt x = false := by simpa [q2, nonI] using hp
        refine ⟨[some (.val (.tuple xs)), some (.val (.int k)), some (.val x)], ?_, _, _, rfl⟩
        simp [e, hp]
      · have hp : isInt x = true := by simpa [q2, nonI] using hp
        refine ⟨[some (.val (.tuple xs)), some (.val (.int k)), some (.val x)], ?_, _, _, rfl⟩
        simp [e, hp]) ⟨_, _, rfl⟩
  have := enum_find nonI xs 0
  cases hf : (enumD 0 xs).find? (q2 nonI) with
  | none =>
    obtain ⟨s', e, a, b, rfl⟩ := g2 hf
    rw [hf] at this
    simp [runF, f_first_odd, startA, fargS, finR, iosOf] at e ⊢
    simp [e, this, finR, iosOf]
  | some d =>
    obtain ⟨s', e, a, b, rfl⟩ := g1 d hf
    rw [hf] at this
    obtain ⟨k, x, rfl, hk⟩ := this
    simp [runF, f_first_odd, startA, fargS, finR, iosOf] at e ⊢
    simp [e, hk, finR, iosOf]
end K01
set_option Elab.async false
set_option linter.all false
set_option maxRecDepth 100000
set_option maxHeartbeats 4000000
namespace K01
open PySem AM
theorem r_wr {n : Nat} {k : Int} {d : PyData} (hn : 3 < n) (h : d.canLay0 = true) (hl : ∀ xs, d = .tuple xs → xs.length ≤ 1000000) : (phi Γ n).go 4 [.val (.int k), .val d] = .ret (.val (rf k d)) [] := by
  obtain ⟨m, rfl⟩ : ∃ m, n = m + 1 := ⟨n - 1, by omega⟩
  rw [go_succ Γ m 4 _ (fd := f_wrong_rule) rfl]
  cases d with
  | tuple xs =>
    have hx : PyData.canLayAll0 xs = true := by rw [PyData.canLay0] at h; exact h
    have e := r_odd (n := m) (by omega) hx
    by_cases h1 : (xs.length : Int) = k + 1
    · rcases fi_int (q := nonI) (xs := xs) (i := 0) with h2 | ⟨j, h2⟩
      · have hc := compM_pure (src := (xs.tail, [])) (own := [3]) (g := .nm 3) (tests := tsts (phi Γ m) .nil) (elt := vl (ev (phi Γ m) (.cmp .ne (.var 3) (.lit (.int 0))))) (s := [some (.val (.int k)), some (.val (.tuple xs)), some (.val .none), none]) (fun _ => true) (fun d => .bool (!isZ d))
          (by simp [isOwn]) rfl rfl rfl (fun d hd => by
            have := fi_none h2 d (List.mem_of_mem_tail hd)
            cases d with
            | int i => exact ⟨_, rfl, by simp, fun _ => by simp [isZ, bne], by simp⟩
            | _ => cases this) (by
              have := hl xs rfl
              show xs.tail.length ≤ 1000000
              rw [List.length_tail]
              omega)
        rw [filter_id] at hc
        have ha := blt_any (g := fun d => !isZ d) xs.tail
        cases h3 : xs.tail.all isZ with
        | true =>
          have h4 : xs.tail.any (fun d => !isZ d) = false := by
            rw [List.any_eq_false]
            intro y hy
            simp [List.all_eq_true.mp h3 y hy]
          rw [rf_z h1 h2 h3]
          simp [runF, f_wrong_rule, startA, fargS, finR, iosOf, e, h1, h2, instOk, instD, -List.map_tail] at hc ⊢
          simp [hc, ha, h4, finR, iosOf, -List.map_tail]
        | false =>
          have h4 : xs.tail.any (fun d => !isZ d) = true := by
            obtain ⟨y, hy, hz⟩ := List.all_eq_false.mp h3
            exact List.any_eq_true.mpr ⟨y, hy, by simpa using hz⟩
          rw [rf_n h1 h2 h3]
          simp [runF, f_wrong_rule, startA, fargS, finR, iosOf, e, h1, h2, instOk, instD, -List.map_tail] at hc ⊢
          simp [hc, ha, h4, finR, iosOf, -List.map_tail, -List.any_eq_true]
      · rw [rf_fi h1 h2]
        simp [runF, f_wrong_rule, startA, fargS, finR, iosOf, e, h1, h2, instOk, instD]
    · rw [rf_len h1]
      simp [runF, f_wrong_rule, startA, fargS, finR, iosOf, e, h1, instOk, instD]
  | dict _ => rw [PyData.canLay0] at h; cases h
  | _ => simp [runF, f_wrong_rule, startA, fargS, finR, iosOf, rf, instOk, instD]
theorem r_rf {n : Nat} {k : Int} {d : PyData} (hn : 3 < n) (h : d.canLay0 = true) (hl : ∀ xs, d = .tuple xs → xs.length ≤ 1000000) : (phi Γ n).go 20 [.val (.int k), .val d] = .ret (.val (rf k d)) [] := by
  obtain ⟨m, rfl⟩ : ∃ m, n = m + 1 := ⟨n - 1, by omega⟩
  rw [go_succ Γ m 20 _ (fd := f__law_km_rule_fault) rfl]
  cases d with
  | tuple xs =>
    have hx : PyData.canLayAll0 xs = true := by rw [PyData.canLay0] at h; exact h
    by_cases h1 : (xs.length : Int) = k + 1
    · have h0 := h1
      obtain rfl : k = (xs.length : Int) - 1 := by omega
      have hc := compM_pure (src := (rangeD 0 (xs.length : Int), [])) (own := [3]) (g := .nm 3) (tests := tsts (phi Γ m) (.cons (.nt (.call 17 (.cons (.ix (.var 1) (.var 3)) .nil))) .nil)) (elt := vl (ev (phi Γ m) (.var 3))) (s := [some (.val (.int ((xs.length : Int) - 1))), some (.val (.tuple xs)), none, none, none]) (qx nonI xs) (fun d => d)
          (by simp [isOwn]) rfl rfl rfl (fun d hd => by
            rw [rangeD_eq] at hd
            obtain ⟨i, hi, rfl⟩ := List.mem_map.mp hd
            have hi : i < xs.length := by simpa using hi
            have hy : xs[i].canLay0 = true := lay_mem hx _ (List.getElem_mem hi)
            have e := r_num2 (n := m) (by omega) (noD_of hy)
            refine ⟨_, rfl, ?_, fun _ => by simp, by simp⟩
            simp [atI_of hi, e, qx, nonI, hi]) (by
              have := hl xs rfl
              rw [rangeD_eq]
              simpa using this)
      have hf := first_eq nonI xs
      rw [List.map_id'] at hc
      have hcl : PyData.canLayAll0 ((rangeD 0 (xs.length : Int)).filter (qx nonI xs)) = true := rng_lay xs _ _
      have hr : rngOk (xs.length : Int) = true := rng_len (hl xs rfl)
      generalize hg : (rangeD 0 (xs.length : Int)).filter (qx nonI xs) = fl at *
      cases fl with
      | cons j fl =>
        have h2 : fi nonI 0 xs = j := hf.symm
        obtain ⟨z, hz⟩ : ∃ z, j = .int z := by
          rcases fi_int (q := nonI) (xs := xs) (i := 0) with h3 | ⟨z, h3⟩
          · have := hg ▸ List.mem_cons_self (a := j) (l := fl)
            rw [rangeD_eq] at this
            obtain ⟨i, _, e⟩ := List.mem_map.mp (List.mem_filter.mp this).1
            exact ⟨_, e.symm⟩
          · exact ⟨_, h2.symm.trans h3⟩
        subst hz
        rw [rf_fi h1 h2]
        simp [runF, f__law_km_rule_fault, startA, fargS, finR, iosOf, hr, instOk, instD] at hc ⊢
        simp [hc, cmp_ne_l hcl, finR, iosOf]
      | nil =>
        have h2 : fi nonI 0 xs = .none := hf.symm
        have hc2 := compM_pure (src := (xs.tail, [])) (own := [4]) (g := .nm 4) (tests := tsts (phi Γ m) (.cons (.cmp .ne (.var 4) (.lit (.int 0))) .nil)) (elt := vl (ev (phi Γ m) (.var 4))) (s := [some (.val (.int ((xs.length : Int) - 1))), some (.val (.tuple xs)), some (.own false []), none, none]) (fun d => !isZ d) (fun d => d)
          (by simp [isOwn]) rfl rfl rfl (fun d hd => by
            have := fi_none h2 d (List.mem_of_mem_tail hd)
            cases d with
            | int i => exact ⟨_, rfl, by simp [isZ, bne], fun _ => by simp, by simp⟩
            | _ => cases this) (by
              have := hl xs rfl
              show xs.tail.length ≤ 1000000
              rw [List.length_tail]
              omega)
        rw [List.map_id'] at hc2
        have hcl2 : PyData.canLayAll0 (xs.tail.filter fun d => !isZ d) = true := lay_all fun x m => lay_mem hx x (List.mem_of_mem_tail (List.mem_filter.mp m).1)
        have hcl0 : PyData.canLayAll0 [] = true := by rw [PyData.canLayAll0]
        cases h3 : xs.tail.all isZ with
        | true =>
          have h4 : xs.tail.filter (fun d => !isZ d) = [] := by
            rw [List.filter_eq_nil_iff]
            intro y hy
            simp [List.all_eq_true.mp h3 y hy]
          rw [h4] at hc2
          rw [rf_z h1 h2 h3]
          simp [runF, f__law_km_rule_fault, startA, fargS, finR, iosOf, hr, instOk, instD] at hc hc2 ⊢
          simp [hc, hc2, cmp_ne_l hcl0, cmp_eq_l hcl0, finR, iosOf]
        | false =>
          have h4 : (xs.tail.filter (fun d => !isZ d)).isEmpty = false := by
            obtain ⟨y, hy, hz⟩ := List.all_eq_false.mp h3
            rw [List.isEmpty_eq_false_iff_exists_mem]
            exact ⟨y, List.mem_filter.mpr ⟨hy, by simpa using hz⟩⟩
          rw [rf_n h1 h2 h3]
          generalize xs.tail.filter (fun d => !isZ d) = fl2 at *
          simp [runF, f__law_km_rule_fault, startA, fargS, finR, iosOf, hr, instOk, instD] at hc hc2 ⊢
          simp [hc, hc2, cmp_ne_l hcl0, cmp_eq_l hcl2, h4, finR, iosOf]
    · rw [rf_len h1]
      simp [runF, f__law_km_rule_fault, startA, fargS, finR, iosOf, h1, instOk, instD]
  | dict _ => rw [PyData.canLay0] at h; cases h
  | _ => simp [runF, f__law_km_rule_fault, startA, fargS, finR, iosOf, rf, instOk, instD]
end K01
set_option Elab.async false
set_option linter.all false
set_option maxRecDepth 100000
set_option maxHeartbeats 4000000
namespace K01
open PySem AM
theorem r_asked {n : Nat} {k : Int} {d : PyData} (hn : 4 < n) (h : Ok d) : (phi Γ n).go 5 [.val (.int k), .val d] = if isNone (rf k d) then .ret (.val d) [] else .err 3 (rf k d) [] := by
  obtain ⟨m, rfl⟩ : ∃ m, n = m + 1 := ⟨n - 1, by omega⟩
  rw [go_succ Γ m 5 _ (fd := f_asked_rule) rfl]
  have e := r_wr (n := m) (k := k) (by omega) h.lay h.len
  cases h1 : isNone (rf k d) with
  | true => simp [runF, f_asked_rule, startA, fargS, finR, iosOf, e, isNone_of h1]
  | false => simp [runF, f_asked_rule, startA, fargS, finR, iosOf, e, h1]
theorem r_made {n : Nat} {k d : PyData} (hn : 5 < n) (hk : noD k = true) (h : Ok d) : (phi Γ n).go 6 [.val k, .val d] = match k with
    | .int i => if inI k 0 12 then (if isNone (rf i d) then .ret (.val d) [] else .err 3 (rf i d) []) else .err 1 k []
    | _ => .err 1 k [] := by
  obtain ⟨m, rfl⟩ : ∃ m, n = m + 1 := ⟨n - 1, by omega⟩
  rw [go_succ Γ m 6 _ (fd := f_made_rule) rfl]
  have e := r_many (n := m) (a := 0) (b := 12) (by omega) hk
  cases k with
  | int i =>
    have e2 := r_asked (n := m) (k := i) (by omega) h
    cases h1 : inI (.int i) 0 12 with
    | false => simp [runF, f_made_rule, startA, fargS, finR, iosOf, e, h1]
    | true =>
      cases h2 : isNone (rf i d) <;> simp [runF, f_made_rule, startA, fargS, finR, iosOf, e, e2, h1, h2]
  | dict _ => cases hk
  | _ => simp [runF, f_made_rule, startA, fargS, finR, iosOf, e, inI]
theorem r_isr {n : Nat} {k d : PyData} (hn : 5 < n) (hk : noD k = true) (h : Ok d) : (phi Γ n).go 7 [.val k, .val d] = match k with
    | .int i => if inI k 0 12 then .ret (.val (.bool (isNone (rf i d)))) [] else .err 1 k []
    | _ => .err 1 k [] := by
  obtain ⟨m, rfl⟩ : ∃ m, n = m + 1 := ⟨n - 1, by omega⟩
  rw [go_succ Γ m 7 _ (fd := f_is_rule) rfl]
  have e := r_many (n := m) (a := 0) (b := 12) (by omega) hk
  cases k with
  | int i =>
    have e2 := r_wr (n := m) (k := i) (by omega) h.lay h.len
    cases h1 : inI (.int i) 0 12 <;> simp [runF, f_is_rule, startA, fargS, finR, iosOf, e, e2, h1]
  | dict _ => cases hk
  | _ => simp [runF, f_is_rule, startA, fargS, finR, iosOf, e, inI]
theorem r_wo {n : Nat} {d : PyData} (hn : 2 < n) (h : d.canLay0 = true) : (phi Γ n).go 8 [.val d] = .ret (.val (wo d)) [] := by
  obtain ⟨m, rfl⟩ : ∃ m, n = m + 1 := ⟨n - 1, by omega⟩
  rw [go_succ Γ m 8 _ (fd := f_wrong_outside) rfl]
  cases d with
  | tuple xs =>
    have hx : PyData.canLayAll0 xs = true := by rw [PyData.canLay0] at h; exact h
    match xs, hx with
    | [], _ => simp [runF, f_wrong_outside, startA, fargS, finR, iosOf, wo, instOk, instD]
    | [a], _ => simp [runF, f_wrong_outside, startA, fargS, finR, iosOf, wo, instOk, instD]
    | [a, b], hx =>
      have ha := lay_mem hx a (by simp)
      have hb := lay_mem hx b (by simp)
      have e := r_whole (n := m) (a := 0) (b := 12) (by omega) (noD_of ha)
      have e1 : L2.atI [a, b] 1 = some b := atI_of (xs := [a, b]) (i := 1) (by simp)
      cases h1 : inI a 0 12 with
      | false => simp [runF, f_wrong_outside, startA, fargS, finR, iosOf, wo, instOk, instD, e, h1]
      | true => cases b <;> first | (rw [PyData.canLay0] at hb; cases hb; done) | simp [runF, f_wrong_outside, startA, fargS, finR, iosOf, wo, instOk, instD, e, e1, h1]
    | a :: b :: c :: r, _ =>
      have : ¬ ((r.length : Int) + 1 + 1 + 1 = 2) := by omega
      simp [runF, f_wrong_outside, startA, fargS, finR, iosOf, wo, instOk, instD, this]
  | dict _ => rw [PyData.canLay0] at h; cases h
  | _ => simp [runF, f_wrong_outside, startA, fargS, finR, iosOf, wo, instOk, instD]
end K01
set_option Elab.async false
set_option linter.all false
set_option maxRecDepth 100000
set_option maxHeartbeats 4000000
namespace K01
open PySem AM
theorem r_nor {n : Nat} {k : Int} {xs : List PyData} (hn : 4 < n) (h : Ok (.tuple xs)) : (phi Γ n).go 9 [.val (.int k), .val (.tuple xs)] = .ret (.val (fi (noR k) 0 xs)) [] := by
  obtain ⟨m, rfl⟩ : ∃ m, n = m + 1 := ⟨n - 1, by omega⟩
  rw [go_succ Γ m 9 _ (fd := f_first_no_rule) rfl]
  obtain ⟨g1, g2⟩ := forL_find (g := (.tp (.cons (.nm 2) (.cons (.nm 3) .nil)))) (b := ex (phi Γ m) (.seq (.ifs (.isN false (.call 4 (.cons (.var 0) (.cons (.var 3) .nil)))) (.seq (.ret (.var 2)) .nil) .nil) .nil))
    (fun s => ∃ a b, s = [some (.val (.int k)), some (.val (.tuple xs)), a, b]) (fun s => ∃ a b, s = [some (.val (.int k)), some (.val (.tuple xs)), a, b]) (q2 (noR k)) (fun d => match d with | .tuple [k, _] => .val k | _ => .val .none) (enumD 0 xs) [some (.val (.int k)), some (.val (.tuple xs)), none, none]
    (fun d hd s hs => by
      obtain ⟨a, b, rfl⟩ := hs
      obtain ⟨j, x, rfl, hx⟩ := enum_mem (P := Ok) xs 0 (fun x m => h.mem m) d hd
      have e := r_wr (n := m) (k := k) (by omega) hx.lay hx.len
      refine ⟨[some (.val (.int k)), some (.val (.tuple xs)), some (.val (.int j)), some (.val x)], by simp [bindG, bindGs], fun hp => ?_, fun hp => ?_⟩
      · have hp : isNone (rf k x) = false := by simpa [q2, noR] using hp
        refine ⟨[some (.val (.int k)), some (.val (.tuple xs)), some (.val (.int j)), some (.val x)], ?_, _, _, rfl⟩
        simp [e, hp]
      · have hp : isNone (rf k x) = true := by simpa [q2, noR] using hp
        refine ⟨[some (.val (.int k)), some (.val (.tuple xs)), some (.val (.int j)), some (.val x)], ?_, _, _, rfl⟩
        simp [e, hp]) ⟨_, _, rfl⟩
  have := enum_find (noR k) xs 0
  cases hf : (enumD 0 xs).find? (q2 (noR k)) with
  | none =>
    obtain ⟨s', e, a, b, rfl⟩ := g2 hf
    rw [hf] at this
    simp [runF, f_first_no_rule, startA, fargS, finR, iosOf] at e ⊢
    simp [e, this, finR, iosOf]
  | some d =>
    obtain ⟨s', e, a, b, rfl⟩ := g1 d hf
    rw [hf] at this
    obtain ⟨j, x, rfl, hk⟩ := this
    simp [runF, f_first_no_rule, startA, fargS, finR, iosOf] at e ⊢
    simp [e, hk, finR, iosOf]
theorem r_mb {n : Nat} {d : PyData} (hn : 5 < n) (h : Ok d) : (phi Γ n).go 10 [.val d] = frO d (bkF d) := by
  obtain ⟨m, rfl⟩ : ∃ m, n = m + 1 := ⟨n - 1, by omega⟩
  rw [go_succ Γ m 10 _ (fd := f_made_book) rfl]
  have e := r_wo (n := m) (by omega) h.lay
  cases h1 : isNone (wo d) with
  | false => simp [runF, f_made_book, startA, fargS, finR, iosOf, e, h1, bkF, frO]
  | true =>
    have h2 := isNone_of h1
    obtain ⟨i, rs, rfl, h3⟩ := wo_none h1
    have e2 := r_nor (n := m) (k := i) (by omega) (h.mem (x := .tuple rs) (by simp))
    by_cases h4 : 24 < rs.length
    · have h5 : (24 : Int) < rs.length := by omega
      simp [runF, f_made_book, startA, fargS, finR, iosOf, e, h1, h2, h4, h5, bkF, frO, ix1]
    · have h5 : ¬ (24 : Int) < rs.length := by omega
      cases h6 : isNone (fi (noR i) 0 rs) with
      | true => simp [runF, f_made_book, startA, fargS, finR, iosOf, e, e2, h1, h2, h4, h5, h6, bkF, frO, ix1]
      | false => simp [runF, f_made_book, startA, fargS, finR, iosOf, e, e2, h1, h2, h4, h5, h6, bkF, frO, ix1]
theorem r_isb {n : Nat} {d : PyData} (hn : 5 < n) (h : Ok d) : (phi Γ n).go 11 [.val d] = .ret (.val (.bool (bkF d).isNone)) [] := by
  obtain ⟨m, rfl⟩ : ∃ m, n = m + 1 := ⟨n - 1, by omega⟩
  rw [go_succ Γ m 11 _ (fd := f_is_book) rfl]
  have e := r_wo (n := m) (by omega) h.lay
  cases h1 : isNone (wo d) with
  | false => simp [runF, f_is_book, startA, fargS, finR, iosOf, e, h1, bkF, frO]
  | true =>
    have h2 := isNone_of h1
    obtain ⟨i, rs, rfl, h3⟩ := wo_none h1
    have e2 := r_nor (n := m) (k := i) (by omega) (h.mem (x := .tuple rs) (by simp))
    by_cases h4 : 24 < rs.length
    · have h5 : (24 : Int) < rs.length := by omega
      simp [runF, f_is_book, startA, fargS, finR, iosOf, e, h1, h2, h4, h5, bkF, frO, ix1]
    · have h5 : ¬ (24 : Int) < rs.length := by omega
      cases h6 : isNone (fi (noR i) 0 rs) with
      | true => simp [runF, f_is_book, startA, fargS, finR, iosOf, e, e2, h1, h2, h4, h5, h6, bkF, frO, ix1]
      | false => simp [runF, f_is_book, startA, fargS, finR, iosOf, e, e2, h1, h2, h4, h5, h6, bkF, frO, ix1]
theorem r_bf {n : Nat} {d : PyData} (hn : 5 < n) (h : Ok d) : (phi Γ n).go 21 [.val d] = .ret (.val (bkD (bkF d))) [] := by
  obtain ⟨m, rfl⟩ : ∃ m, n = m + 1 := ⟨n - 1, by omega⟩
  rw [go_succ Γ m 21 _ (fd := f__law_km_book_fault) rfl]
  cases d with
  | tuple xs =>
    have hx : PyData.canLayAll0 xs = true := by have := h.lay; rw [PyData.canLay0] at this; exact this
    match xs, hx with
    | [], _ => simp [runF, f__law_km_book_fault, startA, fargS, finR, iosOf, wo, bkF, bkD, instOk, instD]
    | [a], _ => simp [runF, f__law_km_book_fault, startA, fargS, finR, iosOf, wo, bkF, bkD, instOk, instD]
    | [a, b], hx =>
      have ha := lay_mem hx a (by simp)
      have hb := lay_mem hx b (by simp)
      have e := r_in (n := m) (a := 0) (b := 12) (by omega) (noD_of ha)
      cases h1 : inI a 0 12 with
      | false => simp [runF, f__law_km_book_fault, startA, fargS, finR, iosOf, wo, bkF, bkD, instOk, instD, e, h1]
      | true =>
        cases b with
        | tuple rs =>
          cases a with
          | int i =>
            have hrs : Ok (.tuple rs) := h.mem (x := .tuple rs) (by simp)
            have hl := hrs.len rs rfl
            by_cases h4 : 24 < rs.length
            · have h5 : (24 : Int) < rs.length := by omega
              simp [runF, f__law_km_book_fault, startA, fargS, finR, iosOf, wo, bkF, bkD, instOk, instD, e, ix1, h1, h4, h5]
            · have h5 : ¬ (24 : Int) < rs.length := by omega
              have hc := compM_pure (src := (rangeD 0 (rs.length : Int), [])) (own := [2]) (g := .nm 2) (tests := tsts (phi Γ m) (.cons (.isN false (.call 20 (.cons (.ix (.var 0) (.lit (.int 0))) (.cons (.ix (.ix (.var 0) (.lit (.int 1))) (.var 2)) .nil)))) .nil)) (elt := vl (ev (phi Γ m) (.var 2))) (s := [some (.val (.tuple [.int i, .tuple rs])), none, none]) (qx (noR i) rs) (fun d => d)
                (by simp [isOwn]) rfl rfl rfl (fun d hd => by
                  rw [rangeD_eq] at hd
                  obtain ⟨j, hj, rfl⟩ := List.mem_map.mp hd
                  have hj : j < rs.length := by simpa using hj
                  have hy := hrs.mem (List.getElem_mem hj)
                  have e := r_rf (n := m) (k := i) (by omega) hy.lay hy.len
                  refine ⟨_, rfl, ?_, fun _ => by simp, by simp⟩
                  simp [ix1, atI_of hj, e, qx, noR, hj]) (by
                    rw [rangeD_eq]
                    simpa using hl)
              have hf := first_eq (noR i) rs
              rw [List.map_id'] at hc
              have hcl : PyData.canLayAll0 ((rangeD 0 (rs.length : Int)).filter (qx (noR i) rs)) = true := rng_lay rs _ _
              have hr : rngOk (rs.length : Int) = true := rng_len hl
              generalize hg : (rangeD 0 (rs.length : Int)).filter (qx (noR i) rs) = fl at *
              cases fl with
              | cons j fl =>
                have h2 : fi (noR i) 0 rs = j := hf.symm
                obtain ⟨z, hz⟩ : ∃ z, j = .int z := by
                  have : j ∈ j :: fl := List.mem_cons_self ..
                  rw [← hg, rangeD_eq] at this
                  obtain ⟨i, _, e⟩ := List.mem_map.mp (List.mem_filter.mp this).1
                  exact ⟨_, e.symm⟩
                subst hz
                simp [runF, f__law_km_book_fault, startA, fargS, finR, iosOf, wo, bkF, bkD, instOk, instD, e, ix1, h1, h2, h4, h5, hr] at hc ⊢
                simp [hc, cmp_ne_l hcl, finR, iosOf]
              | nil =>
                have h2 : fi (noR i) 0 rs = .none := hf.symm
                simp [runF, f__law_km_book_fault, startA, fargS, finR, iosOf, wo, bkF, bkD, instOk, instD, e, ix1, h1, h2, h4, h5, hr] at hc ⊢
                simp [hc, cmp_ne_l hcl, finR, iosOf]
          | _ => simp [inI] at h1
        | dict _ => rw [PyData.canLay0] at hb; cases hb
        | _ => simp [runF, f__law_km_book_fault, startA, fargS, finR, iosOf, wo, bkF, bkD, instOk, instD, e, ix1, h1]
    | a :: b :: c :: r, _ =>
      have : ¬ ((r.length : Int) + 1 + 1 + 1 = 2) := by omega
      simp [runF, f__law_km_book_fault, startA, fargS, finR, iosOf, wo, bkF, bkD, instOk, instD, this]
  | dict _ => have := h.lay; rw [PyData.canLay0] at this; cases this
  | _ => simp [runF, f__law_km_book_fault, startA, fargS, finR, iosOf, wo, bkF, bkD, instOk, instD]
end K01
set_option Elab.async false
set_option linter.all false
set_option maxRecDepth 100000
set_option maxHeartbeats 4000000
namespace K01
open PySem AM
theorem r_isw {n : Nat} {d : PyData} (hn : 1 < n) (h : noD d = true) : (phi Γ n).go 12 [.val d] = .ret (.val (.bool (isW d))) [] := by
  obtain ⟨m, rfl⟩ : ∃ m, n = m + 1 := ⟨n - 1, by omega⟩
  rw [go_succ Γ m 12 _ (fd := f_is_weight) rfl]
  have e := r_num (n := m) (by omega) h
  cases d <;> first | (cases h; done) | simp [runF, f_is_weight, startA, fargS, isInt, finR, iosOf, isW, e]
theorem r_mw {n : Nat} {k d : PyData} (hn : 3 < n) (hk : noD k = true) (h : Ok d) : (phi Γ n).go 13 [.val k, .val d] = match k with
    | .int i => if inI k 0 24 then (if isNone (wf i d) then .ret (.val d) [] else .err 5 (wf i d) []) else .err 1 k []
    | _ => .err 1 k [] := by
  obtain ⟨m, rfl⟩ : ∃ m, n = m + 1 := ⟨n - 1, by omega⟩
  rw [go_succ Γ m 13 _ (fd := f_made_weights) rfl]
  have e := r_many (n := m) (a := 0) (b := 24) (by omega) hk
  cases k with
  | int i =>
    cases h1 : inI (.int i) 0 24 with
    | false => simp [runF, f_made_weights, startA, fargS, finR, iosOf, e, h1]
    | true =>
      cases d with
      | tuple xs =>
        by_cases h2 : (xs.length : Int) = i
        · obtain ⟨g1, g2⟩ := forL_err (g := (.tp (.cons (.nm 2) (.cons (.nm 3) .nil)))) (b := ex (phi Γ m) (.seq (.ifs (.nt (.call 12 (.cons (.var 3) .nil))) (.seq (.rais 5 (.var 2)) .nil) .nil) .nil))
            (fun s => ∃ a b, s = [some (.val (.int i)), some (.val (.tuple xs)), a, b]) (fun s => ∃ a b, s = [some (.val (.int i)), some (.val (.tuple xs)), a, b]) (q2 noW) 5 (fun d => match d with | .tuple [k, _] => k | _ => .none) (enumD 0 xs) [some (.val (.int i)), some (.val (.tuple xs)), none, none]
            (fun d hd s hs => by
              obtain ⟨a, b, rfl⟩ := hs
              obtain ⟨j, x, rfl, hx⟩ := enum_mem (P := Ok) xs 0 (fun x m => h.mem m) d hd
              have e := r_isw (n := m) (by omega) (noD_of hx.lay)
              refine ⟨[some (.val (.int i)), some (.val (.tuple xs)), some (.val (.int j)), some (.val x)], by simp [bindG, bindGs], fun hp => ?_, fun hp => ?_⟩
              · have hp : isW x = false := by simpa [q2, noW] using hp
                refine ⟨[some (.val (.int i)), some (.val (.tuple xs)), some (.val (.int j)), some (.val x)], ?_, _, _, rfl⟩
                simp [e, hp]
              · have hp : isW x = true := by simpa [q2, noW] using hp
                refine ⟨[some (.val (.int i)), some (.val (.tuple xs)), some (.val (.int j)), some (.val x)], ?_, _, _, rfl⟩
                simp [e, hp]) ⟨_, _, rfl⟩
          have := enum_find noW xs 0
          cases hf : (enumD 0 xs).find? (q2 noW) with
          | none =>
            obtain ⟨s', e3, a, b, rfl⟩ := g2 hf
            rw [hf] at this
            simp [runF, f_made_weights, startA, fargS, finR, iosOf, instOk, instD, h1, h2, e, wf] at e3 ⊢
            simp [e3, this, finR, iosOf]
          | some d =>
            obtain ⟨s', e3, a, b, rfl⟩ := g1 d hf
            rw [hf] at this
            obtain ⟨j, x, rfl, hk⟩ := this
            simp [runF, f_made_weights, startA, fargS, finR, iosOf, instOk, instD, h1, h2, e, wf] at e3 ⊢
            simp [e3, hk, finR, iosOf]
        · simp [runF, f_made_weights, startA, fargS, finR, iosOf, e, h1, h2, wf, instOk, instD]
      | dict _ => have := h.lay; rw [PyData.canLay0] at this; cases this
      | _ => simp [runF, f_made_weights, startA, fargS, finR, iosOf, e, h1, wf, instOk, instD]
  | dict _ => cases hk
  | _ => simp [runF, f_made_weights, startA, fargS, finR, iosOf, e, inI]
theorem r_wf {n : Nat} {k : Int} {d : PyData} (hn : 1 < n) (h : Ok d) : (phi Γ n).go 22 [.val (.int k), .val d] = .ret (.val (wf k d)) [] := by
  obtain ⟨m, rfl⟩ : ∃ m, n = m + 1 := ⟨n - 1, by omega⟩
  rw [go_succ Γ m 22 _ (fd := f__law_km_weights_fault) rfl]
  cases d with
  | tuple xs =>
    by_cases h1 : (xs.length : Int) = k
    · subst h1
      have hl := h.len xs rfl
      have hc := compM_pure (src := (rangeD 0 (xs.length : Int), [])) (own := [3]) (g := .nm 3) (tests := tsts (phi Γ m) (.cons (.orr (.cons (.nt (.call 17 (.cons (.ix (.var 1) (.var 3)) .nil))) (.cons (.cmp .lt (.ix (.var 1) (.var 3)) (.lit (.int 0))) .nil))) .nil)) (elt := vl (ev (phi Γ m) (.var 3))) (s := [some (.val (.int xs.length)), some (.val (.tuple xs)), none, none]) (qx noW xs) (fun d => d)
        (by simp [isOwn]) rfl rfl rfl (fun d hd => by
          rw [rangeD_eq] at hd
          obtain ⟨j, hj, rfl⟩ := List.mem_map.mp hd
          have hj : j < xs.length := by simpa using hj
          have hy := h.mem (List.getElem_mem hj)
          have e := r_num2 (n := m) (by omega) (noD_of hy.lay)
          refine ⟨_, rfl, ?_, fun _ => by simp, by simp⟩
          have ez : qx noW xs (.int (j : Nat)) = noW xs[j] := by simp [qx, hj]
          rw [ez]
          generalize hx : xs[j] = x at *
          cases x with
          | int z =>
            simp [atI_of hj, hx, e, isInt, noW, isW]
            by_cases hz : z < 0
            · simp [hz] <;> omega
            · simp [hz] <;> omega
          | dict _ => have := hy.lay; rw [PyData.canLay0] at this; cases this
          | _ => simp [atI_of hj, hx, e, isInt, noW, isW]) (by
            rw [rangeD_eq]
            simpa using hl)
      have hf := first_eq noW xs
      rw [List.map_id'] at hc
      have hcl : PyData.canLayAll0 ((rangeD 0 (xs.length : Int)).filter (qx noW xs)) = true := rng_lay xs _ _
      have hr : rngOk (xs.length : Int) = true := rng_len hl
      generalize hg : (rangeD 0 (xs.length : Int)).filter (qx noW xs) = fl at *
      cases fl with
      | cons j fl =>
        have h2 : fi noW 0 xs = j := hf.symm
        simp [runF, f__law_km_weights_fault, startA, fargS, finR, iosOf, wf, instOk, instD, h2, hr] at hc ⊢
        simp [hc, cmp_ne_l hcl, finR, iosOf]
      | nil =>
        have h2 : fi noW 0 xs = .none := hf.symm
        simp [runF, f__law_km_weights_fault, startA, fargS, finR, iosOf, wf, instOk, instD, h2, hr] at hc ⊢
        simp [hc, cmp_ne_l hcl, finR, iosOf]
    · simp [runF, f__law_km_weights_fault, startA, fargS, finR, iosOf, wf, instOk, instD, h1]
  | dict _ => have := h.lay; rw [PyData.canLay0] at this; cases this
  | _ => simp [runF, f__law_km_weights_fault, startA, fargS, finR, iosOf, wf, instOk, instD]
end K01
set_option Elab.async false
set_option linter.all false
set_option maxRecDepth 100000
set_option maxHeartbeats 4000000
namespace K01
open PySem AM
def nmC : Nat → Str
  | 1 => "BadMany"
  | 2 => "TooMany"
  | 3 => "BadRule"
  | 4 => "BadBook"
  | _ => "BadWeights"
theorem told_phi (n : Nat) : (phi Γ n).told = Γ.told := by cases n <;> rfl
def hS : Calls := ⟨fun _ => [], fun _ _ => .bad, subOf tb.cnm.length subT, fun _ _ _ => none⟩
theorem told_comp (c : Nat) (w : PyData) (xs : List PyData) (hx : ∀ d ∈ xs, ∃ a b, d = .tuple [a, .bool b]) (hl : xs.length ≤ 1000000) :
    compM (xs, [(2, xs)]) [3, 4] (.tp (.cons (.nm 3) (.cons (.nm 4) .nil))) (tsts hS (.cons (.var 4) .nil)) (vl (ev hS (.var 3))) [none, some (.exc c w), some (.own false xs), none, none] =
      .ok (.new ((xs.filter pB).map fB)) [none, some (.exc c w), some (.own false xs), none, none] := by
  have h := compM_pure (src := (xs, [(2, xs)])) (own := [3, 4]) (g := (.tp (.cons (.nm 3) (.cons (.nm 4) .nil)))) (tests := tsts hS (.cons (.var 4) .nil)) (elt := vl (ev hS (.var 3))) (s := [none, some (.exc c w), some (.own false xs), none, none]) pB fB
    (by simp [isOwn]) rfl rfl (by simp [chk, wipeA]) (fun d hd => by
      obtain ⟨a, b, rfl⟩ := hx d hd
      refine ⟨[none, some (.exc c w), some (.own false xs), some (.val a), some (.val (.bool b))], by simp [bindG, bindGs, wipeA], by simp [pB], fun _ => by simp [fB], by simp [wipeA]⟩) hl
  rw [h]
  simp [backA, wipeA]
def five (c : Nat) : List PyData := [.tuple [.str (Str.ofString "BadBook"), .bool (subOf tb.cnm.length subT c 4)], .tuple [.str (Str.ofString "BadMany"), .bool (subOf tb.cnm.length subT c 1)], .tuple [.str (Str.ofString "BadRule"), .bool (subOf tb.cnm.length subT c 3)], .tuple [.str (Str.ofString "TooMany"), .bool (subOf tb.cnm.length subT c 2)], .tuple [.str (Str.ofString "BadWeights"), .bool (subOf tb.cnm.length subT c 5)]]
theorem told_gen (c : Nat) (w : PyData) (x : Str) (h0 : subOf tb.cnm.length subT c 0 = true) (hj : joinD (Str.ofString " ") (((five c).filter pB).map fB) = some x) :
    Γ.told 0 c w = some (.tuple [.str x, w]) := by
  show toldS (subOf tb.cnm.length subT) hd 0 c w = _
  unfold toldS
  have h0 : subOf tb.cnm.length subT c hd.c = true := h0
  rw [if_pos h0]
  have hc := told_comp c w (five c) (by intro d hd; simp only [five, List.mem_cons, List.not_mem_nil, or_false] at hd; rcases hd with rfl | rfl | rfl | rfl | rfl <;> exact ⟨_, _, rfl⟩) (Nat.le_of_ble_eq_true rfl)
  generalize ((five c).filter pB).map fB = ys at *
  simp [hS] at hc
  have hz : 4 < sizeLine := sz_lt (by decide)
  simp [hd, methM, mOk, hz]
  simp [five] at hc
  simp [gd, hc, hj]
theorem told_c (c : Nat) (w : PyData) (h1 : 1 ≤ c) (h2 : c ≤ 5) : Γ.told 0 c w = some (.tuple [.str (nmC c), w]) := by
  have hc : c = 1 ∨ c = 2 ∨ c = 3 ∨ c = 4 ∨ c = 5 := by omega
  rcases hc with rfl | rfl | rfl | rfl | rfl
  · exact told_gen 1 w _ (by decide) (joinD1 (p := Str.ofString "BadMany") (by decide) (by decide))
  · exact told_gen 2 w _ (by decide) (joinD1 (p := Str.ofString "TooMany") (by decide) (by decide))
  · exact told_gen 3 w _ (by decide) (joinD1 (p := Str.ofString "BadRule") (by decide) (by decide))
  · exact told_gen 4 w _ (by decide) (joinD1 (p := Str.ofString "BadBook") (by decide) (by decide))
  · exact told_gen 5 w _ (by decide) (joinD1 (p := Str.ofString "BadWeights") (by decide) (by decide))
end K01
set_option Elab.async false
set_option linter.all false
set_option maxRecDepth 100000
set_option maxHeartbeats 4000000
namespace K01
open PySem AM
def smT : E := (.cmp .ne (.var 2) (.lst .nil))
def smB : S := (.seq (.asg (.tp (.cons (.nm 3) (.cons (.nm 4) .nil))) (.meth .pop (.var 2) .nil))
    (.seq (.ifs (.isN true (.var 4)) (.seq (.asg (.nm 5) (.isN true (.var 3)))
    .nil) (.seq (.ifs (.inst (.var 4) .bool) (.seq (.asg (.nm 5) (.an (.cons (.inst (.var 3) .bool) (.cons (.cmp .eq (.var 3) (.var 4)) .nil))))
    .nil) (.seq (.ifs (.inst (.var 4) .int) (.seq (.asg (.nm 5) (.an (.cons (.call 17 (.cons (.var 3) .nil)) (.cons (.cmp .eq (.var 3) (.var 4)) .nil))))
    .nil) (.seq (.ifs (.inst (.var 4) .str) (.seq (.asg (.nm 5) (.an (.cons (.inst (.var 3) .str) (.cons (.cmp .eq (.var 3) (.var 4)) .nil))))
    .nil) (.seq (.asg (.nm 5) (.ite (.inst (.var 4) .tuple) (.inst (.var 3) .tuple) (.inst (.var 3) .list)))
    (.seq (.asg (.nm 5) (.an (.cons (.var 5) (.cons (.cmp .eq (.blt .len (.cons (.var 3) .nil)) (.blt .len (.cons (.var 4) .nil))) .nil))))
    (.seq (.expr (.meth .extend (.var 2) (.cons (.ite (.var 5) (.comp (.tup (.cons (.ix (.var 3) (.var 6)) (.cons (.ix (.var 4) (.var 6)) .nil))) (.nm 6) (.range1 (.blt .len (.cons (.var 4) .nil))) .nil [6]) (.lst .nil)) .nil)))
    .nil))))
    .nil))
    .nil))
    .nil))
    (.seq (.ifs (.nt (.var 5)) (.seq (.ret (.lit (.bool false)))
    .nil) .nil)
    .nil)))
def smI (x : PyData) (n : Nat) (s : AS) : Prop := ∃ ds v3 v4 v5, s = [some (.val x), some (.val x), some (.own false (ds.map pr)), v3, v4, v5, none] ∧ (∀ d ∈ ds, d.canLay0 = true) ∧ szs ds ≤ 400000 ∧ n = szs ds
theorem same_body {n : Nat} (hn : 0 < n) (x v3 v4 v5) (a : PyData) (ds : List PyData) (ha : a.canLay0 = true) (hs : szs ds + sz a ≤ 400000) :
    ∃ w3 w4 w5, ex (phi Γ n) smB [some (.val x), some (.val x), some (.own false ((ds ++ [a]).map pr)), v3, v4, v5, none] = .nx [some (.val x), some (.val x), some (.own false ((ds ++ kids a).map pr)), w3, w4, w5, none] := by
  have e := r_num2 (n := n) (d := a) (by omega) (noD_of ha)
  cases a with
  | none => exact ⟨some (.val .none), some (.val .none), some (.val (.bool true)), by simp [smB, methM, mOk, pr, kids]⟩
  | bool b => exact ⟨some (.val (.bool b)), some (.val (.bool b)), some (.val (.bool true)), by
      have h1 : cmpD .eq (.bool b) (.bool b) = some true := by simp [cmpD, eqOk, scalD, PyData.eqv]
      simp [smB, methM, mOk, pr, kids, isNone, instOk, instD, h1]⟩
  | int i => exact ⟨some (.val (.int i)), some (.val (.int i)), some (.val (.bool true)), by
      simp [smB, methM, mOk, pr, kids, isNone, instOk, instD, e, isInt]⟩
  | str z => exact ⟨some (.val (.str z)), some (.val (.str z)), some (.val (.bool true)), by
      have h1 : cmpD .eq (.str z) (.str z) = some true := by simp [cmpD, eqOk, scalD, PyData.eqv]
      simp [smB, methM, mOk, pr, kids, isNone, instOk, instD, h1]⟩
  | dict _ => rw [PyData.canLay0] at ha; cases ha
  | tuple xs =>
    have hxs : szs xs + 1 ≤ 400000 := by simp only [sz] at hs; omega
    have hln := len_szs xs
    have hlay : ∀ x ∈ xs, x.canLay0 = true := kids_lay (d := .tuple xs) ha
    have hr : rngOk (xs.length : Int) = true := rng_len (by omega)
    have hc := compM_pure (src := (rangeD 0 (xs.length : Int), [])) (own := [6]) (g := .nm 6) (tests := tsts (phi Γ n) .nil) (elt := vl (ev (phi Γ n) (.tup (.cons (.ix (.var 3) (.var 6)) (.cons (.ix (.var 4) (.var 6)) .nil))))) (s := [some (.val x), some (.val x), some (.own false (ds.map pr)), some (.val (.tuple xs)), some (.val (.tuple xs)), some (.val (.bool true)), none]) (fun _ => true) (pairAt xs)
      (by simp [isOwn]) rfl rfl rfl (fun d hd => by
        rw [rangeD_eq] at hd
        obtain ⟨j, hj, rfl⟩ := List.mem_map.mp hd
        have hj : j < xs.length := by simpa using hj
        exact ⟨_, rfl, by simp, fun _ => by simp [atI_of hj, pairAt, pr, hj], by simp⟩) (by
          rw [rangeD_eq]
          simp
          omega)
    rw [filter_id, range_pairs] at hc
    have hf : fits (ds.length + xs.length) = true := fits_of (by
      have := len_szs ds
      omega)
    refine ⟨some (.val (.tuple xs)), some (.val (.tuple xs)), some (.val (.bool true)), ?_⟩
    simp at hc
    simp [smB, methM, mOk, pr, kids, isNone, instOk, instD, hr]
    simp [hc, hf, pr]
  | list xs =>
    have hxs : szs xs + 1 ≤ 400000 := by simp only [sz] at hs; omega
    have hln := len_szs xs
    have hlay : ∀ x ∈ xs, x.canLay0 = true := kids_lay (d := .list xs) ha
    have hr : rngOk (xs.length : Int) = true := rng_len (by omega)
    have hc := compM_pure (src := (rangeD 0 (xs.length : Int), [])) (own := [6]) (g := .nm 6) (tests := tsts (phi Γ n) .nil) (elt := vl (ev (phi Γ n) (.tup (.cons (.ix (.var 3) (.var 6)) (.cons (.ix (.var 4) (.var 6)) .nil))))) (s := [some (.val x), some (.val x), some (.own false (ds.map pr)), some (.val (.list xs)), some (.val (.list xs)), some (.val (.bool true)), none]) (fun _ => true) (pairAt xs)
      (by simp [isOwn]) rfl rfl rfl (fun d hd => by
        rw [rangeD_eq] at hd
        obtain ⟨j, hj, rfl⟩ := List.mem_map.mp hd
        have hj : j < xs.length := by simpa using hj
        exact ⟨_, rfl, by simp, fun _ => by simp [atI_of hj, pairAt, pr, hj], by simp⟩) (by
          rw [rangeD_eq]
          simp
          omega)
    rw [filter_id, range_pairs] at hc
    have hf : fits (ds.length + xs.length) = true := fits_of (by
      have := len_szs ds
      omega)
    refine ⟨some (.val (.list xs)), some (.val (.list xs)), some (.val (.bool true)), ?_⟩
    simp at hc
    simp [smB, methM, mOk, pr, kids, isNone, instOk, instD, hr]
    simp [hc, hf, pr]
theorem r_same {n : Nat} {x : PyData} (hn : 1 < n) (h : x.canLay0 = true) (hs : sz x ≤ 400000) : (phi Γ n).go 19 [.val x, .val x] = .ret (.val (.bool true)) [] := by
  obtain ⟨m, rfl⟩ : ∃ m, n = m + 1 := ⟨n - 1, by omega⟩
  rw [go_succ Γ m 19 _ (fd := f__law_km_same) rfl]
  obtain ⟨s', e, ds, v3, v4, v5, rfl, _, _, _⟩ := whl_meas (c := tst (phi Γ m) smT) (b := ex (phi Γ m) smB) (smI x) (fun k s hi => by
    obtain ⟨ds, v3, v4, v5, rfl, hl, hz, hk⟩ := hi
    have hcl := cmp_ne_l (lay_pr hl)
    rcases List.eq_nil_or_concat ds with rfl | ⟨ds', a, rfl⟩
    · refine .inl ⟨_, ?_, [], v3, v4, v5, rfl, by simp, by simp [szs], by simp [szs]⟩
      simp at hcl
      simp [smT, hcl]
    · rw [List.concat_eq_append] at *
      have ha : a.canLay0 = true := hl a (by simp)
      rw [szs_append] at hz hk
      have h1 : szs [a] = sz a := by simp [szs]
      have h2 := kids_sz a
      obtain ⟨w3, w4, w5, hb⟩ := same_body (n := m) (by omega) x v3 v4 v5 a ds' ha (by omega)
      refine .inr ⟨_, _, szs (ds' ++ kids a), ?_, hb, by rw [szs_append]; omega, ds' ++ kids a, w3, w4, w5, rfl, ?_, by rw [szs_append]; omega, rfl⟩
      · simp at hcl
        simp [smT, hcl]
      · intro d hd
        rcases List.mem_append.mp hd with hd | hd
        · exact hl d (by simp [hd])
        · exact kids_lay ha d hd) (sz x) [some (.val x), some (.val x), some (.own false [pr x]), none, none, none, none] ⟨[x], none, none, none, rfl, by simpa using h, by simpa [szs] using hs, by simp [szs]⟩
  simp [runF, f__law_km_same, startA, fargS, finR, iosOf]
  simp [smT, smB, pr] at e
  simp [e, finR, iosOf]
end K01
set_option Elab.async false
set_option linter.all false
set_option maxRecDepth 100000
set_option maxHeartbeats 4000000
namespace K01
open PySem AM
theorem r_take {n t : Nat} {jar : List PyData} {m : Int} (hn : 0 < n) (hj : JarOk t jar) (ht : t < 10 ^ 15) (h0 : 0 < m) (h1 : m < 2 ^ 32) :
    ∃ (v : Int) (jar' : List PyData), (phi Γ n).go 15 [.io jar, .val (.int m)] = .ret (.val (.int v)) [jar'] ∧ 0 ≤ v ∧ v < m ∧ JarOk (t + 1) jar' := by
  obtain ⟨k, rfl⟩ : ∃ k, n = k + 1 := ⟨n - 1, by omega⟩
  rw [go_succ Γ k 15 _ (fd := f__law_take) rfl]
  obtain ⟨a, b, c, rfl, b0, b1, c0, c1⟩ := hj
  have e0 : ∀ x y z : PyData, L2.atI [x, y, z] 0 = some x := fun _ _ _ => rfl
  have e1 : ∀ x y z : PyData, L2.atI [x, y, z] 1 = some y := fun _ _ _ => rfl
  have e2 : ∀ x y z : PyData, L2.atI [x, y, z] 2 = some z := fun _ _ _ => rfl
  have i0 : L2.ixN 3 0 = some 0 := rfl
  have i1 : L2.ixN 3 1 = some 1 := rfl
  have i2 : L2.ixN 3 2 = some 2 := rfl
  have hm : ∀ x : Int, binD .mod (.int x) (.int m) = some (.val (.int (x % m))) := fun x => by simp [binD, h0]
  have hd : ∀ x : Int, binD .fdiv (.int x) (.int m) = some (.val (.int (x / m))) := fun x => by
    have : divOk m = true := by
      unfold divOk
      rw [Bool.and_eq_true, decide_eq_true_eq, decide_eq_true_eq]
      exact ⟨h0, Nat.lt_of_le_of_lt (Nat.le_of_lt ((Nat.log2_lt (by omega)).mpr (show m.natAbs < 2 ^ 64 by omega))) (by decide)⟩
    simp [binD, this]
  by_cases ha : 0 < a
  · refine ⟨a % m, [.int (a / m), .int b, .int c], ?_, Int.emod_nonneg _ (by omega), Int.emod_lt_of_pos _ h0, a / m, b, c, rfl, b0, b1, c0, by omega⟩
    simp [runF, f__law_take, startA, fargS, finR, iosOf, ha, e0, e1, e2, i0, i1, i2, hm, hd, setM]
  · have d1 : ∀ x : Int, binD .mod (.int x) (.int 2147483647) = some (.val (.int (x % 2147483647))) := fun x => rfl
    have d2 : ∀ x : Int, binD .mod (.int x) (.int 2147483629) = some (.val (.int (x % 2147483629))) := fun x => rfl
    have d3 : ∀ x : Int, binD .fdiv (.int x) (.int 32) = some (.val (.int (x / 32))) := fun x => rfl
    have m1 : binD .mul (.int b) (.int 39373) = some (.val (.int (b * 39373))) := by
      simp only [binD]
      rw [if_pos (mul_s (by omega) (by decide))]
    have m2 : binD .mul (.int 7919) (.int (c + 1)) = some (.val (.int (7919 * (c + 1)))) := by
      simp only [binD]
      rw [if_pos (mul_s (by decide) (by omega))]
    generalize hb : (b * 39373 + 7919 * (c + 1) + 7) % 2147483647 = b2 at *
    have b20 : 0 ≤ b2 := hb ▸ Int.emod_nonneg _ (by decide)
    have b21 : b2 < 2147483647 := hb ▸ Int.emod_lt_of_pos _ (by decide)
    have m3 : binD .mul (.int b2) (.int b2) = some (.val (.int (b2 * b2))) := by
      simp only [binD]
      rw [if_pos (mul_s (by omega) (by omega))]
    refine ⟨b2 * b2 % 2147483629 / 32 % m, [.int a, .int b2, .int (c + 1)], ?_, Int.emod_nonneg _ (by omega), Int.emod_lt_of_pos _ h0, a, b2, c + 1, rfl, b20, b21, by omega, by omega⟩
    simp [runF, f__law_take, startA, fargS, finR, iosOf, ha, e0, e1, e2, i0, i1, i2, hm, hd, setM, d1, d2, d3, m1, m2, m3, hb]
end K01
set_option Elab.async false
set_option linter.all false
set_option maxRecDepth 100000
set_option maxHeartbeats 4000000
namespace K01
open PySem AM
theorem r_one {n t : Nat} {jar ths : List PyData} (hn : 1 < n) (hj : JarOk t jar) (ht : t < 10 ^ 15) (h0 : 0 < ths.length) (h1 : ths.length ≤ 1000000) :
    ∃ (v : PyData) (jar' : List PyData), (phi Γ n).go 16 [.io jar, .val (.list ths)] = .ret (.val v) [jar'] ∧ v ∈ ths ∧ JarOk (t + 1) jar' := by
  obtain ⟨k, rfl⟩ : ∃ k, n = k + 1 := ⟨n - 1, by omega⟩
  rw [go_succ Γ k 16 _ (fd := f__law_one) rfl]
  obtain ⟨v, jar', e, v0, v1, hj'⟩ := r_take (n := k) (m := ths.length) (by omega) hj ht (by omega) (by omega)
  obtain ⟨x, hx, hx2⟩ := atI_ofI v0 v1
  refine ⟨x, jar', ?_, List.mem_of_getElem? hx2, hj'⟩
  have hc := callA_j1 (phi Γ k) 15 [some (.val (.list ths))] (b := true) (by rw [by_phi]; rfl) e
  simp [runF, f__law_one, startA, fargS, finR, iosOf, hc, rvA, hx]
end K01
set_option Elab.async false
set_option linter.all false
set_option maxRecDepth 100000
set_option maxHeartbeats 4000000
namespace K01
open PySem AM
theorem hb15 (n : Nat) : ((phi Γ n).by_ 15).headD false = true := by rw [by_phi]; rfl
theorem hb16 (n : Nat) : ((phi Γ n).by_ 16).headD false = true := by rw [by_phi]; rfl
theorem r_number {n t : Nat} {jar : List PyData} (hn : 2 < n) (hj : JarOk t jar) (ht : t < 10 ^ 14) :
    ∃ (v : Int) (jar' : List PyData), (phi Γ n).go 23 [.io jar] = .ret (.val (.int v)) [jar'] ∧ -(10 ^ 41) ≤ v ∧ v ≤ 10 ^ 41 ∧ JarOk (t + 6) jar' := by
  obtain ⟨k, rfl⟩ : ∃ k, n = k + 1 := ⟨n - 1, by omega⟩
  rw [go_succ Γ k 23 _ (fd := f__law_km_number) rfl]
  obtain ⟨v1, j1, e1, a1, b1, k1⟩ := r_take (n := k) (m := 13) (by omega) hj (by omega) (by omega) (by omega)
  obtain ⟨v2, j2, e2, a2, b2, k2⟩ := r_take (n := k) (m := 1000) (by omega) k1 (by omega) (by omega) (by omega)
  obtain ⟨x3, j3, e3, a3, k3⟩ := r_one (n := k) (ths := [.int 0, .int 1, .int 1, .int 2, .int 2, .int 3, .int 4, .int 6, .int v1, .int v2]) (by omega) k2 (by omega) (by simp) (by simp)
  obtain ⟨v4, j4, e4, a4, b4, k4⟩ := r_take (n := k) (m := 25) (by omega) k3 (by omega) (by omega) (by omega)
  obtain ⟨x5, j5, e5, a5, k5⟩ := r_one (n := k) (ths := [.int (10 ^ 40 + 7), .int (6 * 10 ^ 20), .int (2 ^ 61)]) (by omega) k4 (by omega) (by simp) (by simp)
  have h3 : SmI x3 := by
    simp at a3
    rcases a3 with rfl | rfl | rfl | rfl | rfl | rfl | rfl | rfl | rfl <;> exact ⟨_, rfl, by omega, by omega⟩
  have h5 : SmI x5 := by
    simp at a5
    rcases a5 with rfl | rfl | rfl <;> exact ⟨_, rfl, by decide, by decide⟩
  obtain ⟨i3, rfl, l3, g3⟩ := h3
  obtain ⟨i5, rfl, l5, g5⟩ := h5
  obtain ⟨v6, j6, e6, a6, b6, k6⟩ := r_take (n := k) (m := 2) (by omega) k4 (by omega) (by omega) (by omega)
  obtain ⟨v7, j7, e7, a7, b7, k7⟩ := r_take (n := k) (m := 2) (by omega) k5 (by omega) (by omega) (by omega)
  have c1 := fun s => callA_j1 (phi Γ k) 15 s (b := true) (hb15 k) e1
  have c2 := fun s => callA_j1 (phi Γ k) 15 s (b := true) (hb15 k) e2
  have c3 := fun s => callA_j1 (phi Γ k) 16 s (b := true) (hb16 k) e3
  have c4 := fun s => callA_j1 (phi Γ k) 15 s (b := true) (hb15 k) e4
  have c5 := fun s => callA_j1 (phi Γ k) 16 s (b := true) (hb16 k) e5
  have c6 := fun s => callA_j1 (phi Γ k) 15 s (b := true) (hb15 k) e6
  have c7 := fun s => callA_j1 (phi Γ k) 15 s (b := true) (hb15 k) e7
  have p1 : binD .pow (.int 10) (.int 40) = some (.val (.int (10 ^ 40))) := rfl
  have p2 : binD .pow (.int 10) (.int 20) = some (.val (.int (10 ^ 20))) := rfl
  have p3 : binD .pow (.int 2) (.int 61) = some (.val (.int (2 ^ 61))) := rfl
  have p4 : binD .mul (.int 6) (.int (10 ^ 20)) = some (.val (.int (6 * 10 ^ 20))) := by
    simp only [binD]
    rw [if_pos (mul_ok (by decide) (by decide))]
  simp at p1 p2 p3 p4 c5
  by_cases q4 : v4 = 0
  · subst q4
    by_cases q7 : v7 = 0
    · refine ⟨-i5, j7, ?_, by omega, by omega, k7.mono (by omega)⟩
      simp [runF, f__law_km_number, startA, fargS, finR, iosOf, rvA, c1, c2, c3, c4, c5, c7, p1, p2, p3, p4, q7]
    · refine ⟨i5, j7, ?_, by omega, by omega, k7.mono (by omega)⟩
      simp [runF, f__law_km_number, startA, fargS, finR, iosOf, rvA, c1, c2, c3, c4, c5, c7, p1, p2, p3, p4, q7]
  · by_cases q6 : v6 = 0
    · refine ⟨-i3, j6, ?_, by omega, by omega, k6.mono (by omega)⟩
      simp [runF, f__law_km_number, startA, fargS, finR, iosOf, rvA, c1, c2, c3, c4, c6, q4, q6]
    · refine ⟨i3, j6, ?_, by omega, by omega, k6.mono (by omega)⟩
      simp [runF, f__law_km_number, startA, fargS, finR, iosOf, rvA, c1, c2, c3, c4, c6, q4, q6]
end K01
set_option Elab.async false
set_option linter.all false
set_option maxRecDepth 100000
set_option maxHeartbeats 4000000
namespace K01
open PySem AM
theorem r_entries {n t : Nat} {jar : List PyData} {f : Int} (hn : 2 < n) (hj : JarOk t jar) (ht : t < 10 ^ 14) (f0 : 0 ≤ f) (f1 : f ≤ 1) :
    ∃ (v : Int) (jar' : List PyData), (phi Γ n).go 25 [.io jar, .val (.int f)] = .ret (.val (.int v)) [jar'] ∧ f ≤ v ∧ v ≤ 12 ∧ JarOk (t + 1) jar' := by
  obtain ⟨k, rfl⟩ : ∃ k, n = k + 1 := ⟨n - 1, by omega⟩
  rw [go_succ Γ k 25 _ (fd := f__law_km_entries) rfl]
  obtain ⟨x, j, e, a, k3⟩ := r_one (n := k) (ths := [.int 0, .int 1, .int 1, .int 2, .int 2, .int 3, .int 3, .int 4, .int 5, .int 12]) (by omega) hj (by omega) (by simp) (by simp)
  obtain ⟨i, rfl, i0, i1⟩ : ∃ i : Int, x = .int i ∧ 0 ≤ i ∧ i ≤ 12 := by
    simp at a
    rcases a with rfl | rfl | rfl | rfl | rfl | rfl | rfl <;> exact ⟨_, rfl, by decide, by decide⟩
  have c := fun s => callA_j1 (phi Γ k) 16 s (b := true) (hb16 k) e
  refine ⟨if i > f then i else f, j, ?_, by split <;> omega, by split <;> omega, k3⟩
  simp [runF, f__law_km_entries, startA, fargS, finR, iosOf, rvA, c]
end K01
set_option Elab.async false
set_option linter.all false
set_option maxRecDepth 100000
set_option maxHeartbeats 4000000
namespace K01
open PySem AM
theorem hbf (n : Nat) (f : Nat) (h : (((Γ.fns[f]?).map (·.by_)).getD []).headD false = true) : ((phi Γ n).by_ f).headD false = true := by rw [by_phi]; exact h
end K01
set_option Elab.async false
set_option linter.all false
set_option maxRecDepth 100000
set_option maxHeartbeats 4000000
namespace K01
open PySem AM AM.AI
theorem r_one_io {n t : Nat} {jar ths : List PyData} (hn : 1 < n) (hj : JarOk t jar) (ht : t < 10 ^ 15) (h0 : 0 < ths.length) (h1 : ths.length ≤ 1000000) :
    ∃ (v : PyData) (jar' : List PyData), (phi Γ n).go 16 [.io jar, .io ths] = .ret (.val v) [jar', ths] ∧ v ∈ ths ∧ JarOk (t + 1) jar' := by
  obtain ⟨k, rfl⟩ : ∃ k, n = k + 1 := ⟨n - 1, by omega⟩
  rw [go_succ Γ k 16 _ (fd := f__law_one) rfl]
  obtain ⟨v, jar', e, v0, v1, hj'⟩ := r_take (n := k) (m := ths.length) (by omega) hj ht (by omega) (by omega)
  obtain ⟨x, hx, hx2⟩ := atI_ofI v0 v1
  refine ⟨x, jar', ?_, List.mem_of_getElem? hx2, hj'⟩
  have hc := callA_j1 (phi Γ k) 15 [some (.own true ths)] (b := true) (by rw [by_phi]; rfl) e
  simp [runF, f__law_one, startA, fargS, finR, iosOf, hc, rvA, hx]
def RuleD (n : Nat) (d : PyData) : Prop := ∃ xs : List Int, d = .tuple (xs.map .int) ∧ xs.length = n + 1 ∧ (∀ x ∈ xs, -(10 ^ 42) ≤ x ∧ x ≤ 10 ^ 42) ∧ ∃ x ∈ xs.tail, x ≠ 0
def O1 : Opq := ⟨fun k => .tup (.rep (.int (-(10 ^ 42)) (10 ^ 42)) (k + 1) (k + 1)), fun k => k + 2, fun _ => 1⟩
theorem O1_ok : OpqOk O1 RuleD where
  wk k d h := by
    obtain ⟨xs, rfl, h1, h2, _⟩ := h
    refine ⟨_, rfl, by rw [List.length_map]; omega, by rw [List.length_map]; omega, fun x m => ?_⟩
    obtain ⟨i, hi, rfl⟩ := List.mem_map.mp m
    exact ⟨i, rfl, (h2 i hi).1, (h2 i hi).2⟩
  lay k d h := by
    obtain ⟨xs, rfl, h1, h2, _⟩ := h
    rw [PyData.canLay0]
    exact lay_all fun x m => by
      obtain ⟨i, hi, rfl⟩ := List.mem_map.mp m
      rw [PyData.canLay0]
  ws k d h := by
    obtain ⟨xs, rfl, h1, h2, _⟩ := h
    have := szs_rep (n := 1) (xs := xs.map PyData.int) fun x m => by
      obtain ⟨i, hi, rfl⟩ := List.mem_map.mp m
      simp [sz]
    rw [List.length_map] at this
    show sz _ ≤ k + 2
    simp only [sz]
    omega
  wd k d h := by
    obtain ⟨xs, rfl, h1, h2, _⟩ := h
    have : PyData.depthAll (xs.map PyData.int) ≤ 0 := dep_all fun x m => by
      obtain ⟨i, hi, rfl⟩ := List.mem_map.mp m
      simp [PyData.depth]
    show PyData.depth _ ≤ 1
    simp only [PyData.depth]
    omega
def C1 : Cfg := ((Cfg0 O1 fns).addG 15 sumTake).addG 16 (sumOne O1)
theorem C1_ok : CfgAt RuleD C1 Γ 2 := by
  refine add_fun (N := 1) ?_ (by omega) (one_sum O1_ok (fun n t jar ths a b c d e => r_one a b c d e) (fun n t jar ths a b c d e => r_one_io a b c d e))
  exact add_fun (cfg0_ok O1_ok Γ) (by omega) (take_sum (fun n t jar m a b c d e => r_take a b c d e))
def t_number : Tab := [([.jar], (false, .int (-(10 ^ 41)) (10 ^ 41), 6))]
def C2 : Cfg := C1.add 23 t_number
theorem C2_ok : CfgAt RuleD C2 Γ 3 := add_def C1_ok (fd := f__law_km_number) (sp := []) rfl (by decide +kernel)
def t_entries : Tab := [([.jar, .val (.int 0 0)], (false, .int 0 12, 1)), ([.jar, .val (.int 1 1)], (false, .int 1 12, 1))]
def C3 : Cfg := C2.add 25 t_entries
theorem C3_ok : CfgAt RuleD C3 Γ 4 := add_def C2_ok (fd := f__law_km_entries) (sp := []) rfl (by decide +kernel)
end K01
set_option Elab.async false
set_option linter.all false
set_option maxRecDepth 100000
set_option maxHeartbeats 4000000
namespace AM
open PySem
theorem depth_append : ∀ xs ys : List PyData, PyData.depthAll (xs ++ ys) = max (PyData.depthAll xs) (PyData.depthAll ys)
  | [], ys => by simp [PyData.depthAll]
  | x :: xs, ys => by
    rw [List.cons_append]
    simp only [PyData.depthAll, depth_append xs ys]
    omega
theorem lay_append : ∀ {xs ys : List PyData}, PyData.canLayAll0 xs = true → PyData.canLayAll0 ys = true → PyData.canLayAll0 (xs ++ ys) = true := fun {xs ys} h1 h2 => lay_all fun x m => by
  rcases List.mem_append.mp m with m | m
  · exact lay_mem h1 x m
  · exact lay_mem h2 x m
/-- small data -/
structure Sm (d : PyData) (s p : Nat) : Prop where
  lay : d.canLay0 = true
  sz : sz d ≤ s
  dp : d.depth ≤ p
structure Sms (xs : List PyData) (s p : Nat) : Prop where
  lay : PyData.canLayAll0 xs = true
  sz : szs xs ≤ s
  dp : PyData.depthAll xs ≤ p
theorem Sm.tup {xs : List PyData} {s p : Nat} (h : Sms xs s p) : Sm (.tuple xs) (s + 1) (p + 1) := ⟨by rw [PyData.canLay0]; exact h.lay, by have := h.sz; simp only [AM.sz]; omega, by have := h.dp; simp only [PyData.depth]; omega⟩
theorem Sm.lst {xs : List PyData} {s p : Nat} (h : Sms xs s p) : Sm (.list xs) (s + 1) (p + 1) := ⟨by rw [PyData.canLay0]; exact h.lay, by have := h.sz; simp only [AM.sz]; omega, by have := h.dp; simp only [PyData.depth]; omega⟩
theorem Sms.app {xs ys : List PyData} {s p s' p' : Nat} (h : Sms xs s p) (h' : Sms ys s' p') : Sms (xs ++ ys) (s + s') (max p p') := ⟨lay_append h.lay h'.lay, by have := h.sz; have := h'.sz; rw [szs_append]; omega, by have := h.dp; have := h'.dp; rw [depth_append]; omega⟩
theorem Sms.one {x : PyData} {s p : Nat} (h : Sm x s p) : Sms [x] s p := ⟨by rw [PyData.canLayAll0, h.lay, PyData.canLayAll0]; rfl, by have := h.sz; simp only [szs]; omega, by have := h.dp; simp only [PyData.depthAll]; omega⟩
theorem Sms.cons {x : PyData} {xs : List PyData} {s p s' p' : Nat} (h : Sm x s p) (h' : Sms xs s' p') : Sms (x :: xs) (s + s') (max p p') := (Sms.one h).app h'
theorem Sms.rev {xs : List PyData} {s p : Nat} (h : Sms xs s p) : Sms xs.reverse s p := by
  have e : szs xs.reverse = szs xs := by
    clear h
    induction xs with
    | nil => rfl
    | cons x xs ih => rw [List.reverse_cons, szs_append, ih]; simp only [szs]; omega
  have e2 : PyData.depthAll xs.reverse = PyData.depthAll xs := by
    clear h e
    induction xs with
    | nil => rfl
    | cons x xs ih => rw [List.reverse_cons, depth_append, ih]; simp only [PyData.depthAll]; omega
  exact ⟨lay_all fun x m => lay_mem h.lay x (by simpa using m), by rw [e]; exact h.sz, by rw [e2]; exact h.dp⟩
theorem Sm.mono {d : PyData} {s p s' p' : Nat} (h : Sm d s p) (h1 : s ≤ s') (h2 : p ≤ p') : Sm d s' p' := ⟨h.lay, Nat.le_trans h.sz h1, Nat.le_trans h.dp h2⟩
theorem Sms.nil : Sms [] 0 0 := ⟨rfl, by simp [szs], by simp [PyData.depthAll]⟩
theorem Sms.parts {xs : List PyData} {i : Nat} (hi : i < xs.length) (h : PyData.canLayAll0 xs = true) : ∃ a b c, a + b + c = szs xs ∧ Sms (xs.take i) a (PyData.depthAll xs) ∧ Sm xs[i] b (PyData.depthAll xs) ∧ Sms (xs.drop (i + 1)) c (PyData.depthAll xs) := by
  have e : xs = xs.take i ++ xs[i] :: xs.drop (i + 1) := by simp
  refine ⟨szs (xs.take i), AM.sz xs[i], szs (xs.drop (i + 1)), ?_, ⟨lay_all fun x m => lay_mem h x (List.mem_of_mem_take m), Nat.le_refl _, ?_⟩, ⟨lay_mem h _ (List.getElem_mem hi), Nat.le_refl _, ?_⟩, ⟨lay_all fun x m => lay_mem h x (List.mem_of_mem_drop m), Nat.le_refl _, ?_⟩⟩
  · conv => rhs; rw [e]
    rw [szs_append]
    simp only [szs]
    omega
  all_goals
    have e2 : PyData.depthAll xs = max (PyData.depthAll (xs.take i)) (max (PyData.depth xs[i]) (PyData.depthAll (xs.drop (i + 1)))) := by
      conv => lhs; rw [e]
      rw [depth_append]
      rfl
    omega
end AM
set_option Elab.async false
set_option linter.all false
set_option maxRecDepth 100000
set_option maxHeartbeats 8000000
namespace K01
open PySem AM AM.AI
def oddL : List PyData := [.none, .str "0", .bool true, .bool false, .int (-1), .int 0, .int (10 ^ 25), .tuple [], .tuple [.int 0], .list [.int 0], .str "rule"]
theorem oddL_sm : ∀ d ∈ oddL, Sm d 2 1 := by
  intro d m
  unfold oddL at m
  simp only [List.mem_cons, List.not_mem_nil, or_false] at m
  rcases m with rfl | rfl | rfl | rfl | rfl | rfl | rfl | rfl | rfl | rfl | rfl <;> exact ⟨by decide +kernel, by decide +kernel, by decide +kernel⟩
theorem Sm.len {xs : List PyData} {s p : Nat} (h : Sm (.tuple xs) s p) : xs.length + 1 ≤ s := by
  have := h.sz
  have := len_szs xs
  simp only [AM.sz] at *
  omega
theorem r_bent : ∀ (dp n t : Nat) (jar : List PyData) (d : PyData) (s : Nat), dp + 4 ≤ n → Sm d s dp → s ≤ 300000 → JarOk t jar → t + 10 * dp < 10 ^ 15 - 100 →
    ∃ v jar', (phi Γ n).go 27 [.io jar, .val d] = .ret (.val v) [jar'] ∧ Sm v (2 * s + 3) (dp + 1) ∧ JarOk (t + 3 * dp + 3) jar' := by
  intro dp
  induction dp with
  | zero =>
    intro n t jar d s hn hd hs hj ht
    obtain ⟨k, rfl⟩ : ∃ k, n = k + 1 := ⟨n - 1, by omega⟩
    rw [go_succ Γ k 27 _ (fd := f__law_km_bent) rfl]
    obtain ⟨x1, j1, e1, a1, k1⟩ := r_one (n := k) (ths := oddL) (by omega) hj (by omega) (by decide) (by decide)
    have c1 := fun s => callA_j1 (phi Γ k) 16 s (b := true) (hb16 k) e1
    have o1 := oddL_sm x1 a1
    have p1 : binD .pow (.int 10) (.int 25) = some (.val (.int (10 ^ 25))) := rfl
    simp only [oddL] at c1
    simp at p1 c1
    refine ⟨x1, j1, ?_, o1.mono (by omega) (by omega), k1.mono (by omega)⟩
    cases d with
    | tuple xs => have := hd.dp; simp [PyData.depth] at this
    | dict _ => have := hd.lay; rw [PyData.canLay0] at this; cases this
    | _ => simp [runF, f__law_km_bent, startA, fargS, finR, iosOf, rvA, c1, p1, instOk, instD]
  | succ dp ih =>
    intro n t jar d s hn hd hs hj ht
    obtain ⟨k, rfl⟩ : ∃ k, n = k + 1 := ⟨n - 1, by omega⟩
    rw [go_succ Γ k 27 _ (fd := f__law_km_bent) rfl]
    obtain ⟨x1, j1, e1, a1, k1⟩ := r_one (n := k) (ths := oddL) (by omega) hj (by omega) (by decide) (by decide)
    have c1 := fun s => callA_j1 (phi Γ k) 16 s (b := true) (hb16 k) e1
    have o1 := oddL_sm x1 a1
    have p1 : binD .pow (.int 10) (.int 25) = some (.val (.int (10 ^ 25))) := rfl
    simp only [oddL] at c1
    simp at p1 c1
    have early : ∀ r : FR, r = .ret (.val x1) [j1] → ∃ v jar', r = .ret (.val v) [jar'] ∧ Sm v (2 * s + 3) (dp + 1 + 1) ∧ JarOk (t + 3 * (dp + 1) + 3) jar' := fun r hr => ⟨x1, j1, hr, o1.mono (by omega) (by omega), k1.mono (by omega)⟩
    cases d with
    | dict _ => have := hd.lay; rw [PyData.canLay0] at this; cases this
    | tuple xs =>
      have hl := Sm.len hd
      have hlay : PyData.canLayAll0 xs = true := by have := hd.lay; rw [PyData.canLay0] at this; exact this
      have hsz : szs xs + 1 ≤ s := by have := hd.sz; simp only [AM.sz] at this; omega
      have hdp : PyData.depthAll xs ≤ dp := by have := hd.dp; simp only [PyData.depth] at this; omega
      have hemp : cmpD .eq (.tuple xs) (.tuple []) = some xs.isEmpty := by
        simp [cmpD, eqOk_t hd.lay]
      cases hxs : xs.isEmpty with
      | true =>
        refine early _ ?_
        simp [runF, f__law_km_bent, startA, fargS, finR, iosOf, rvA, c1, p1, instOk, instD, hemp, hxs]
      | false =>
        have hpos : 0 < xs.length := by
          cases xs with
          | nil => cases hxs
          | cons _ _ => simp
        obtain ⟨v2, j2, e2, a2, b2, k2⟩ := r_take (n := k) (m := xs.length) (by omega) k1 (by omega) (by omega) (by omega)
        obtain ⟨v3, j3, e3, a3, b3, k3⟩ := r_take (n := k) (m := 9) (by omega) k2 (by omega) (by omega) (by omega)
        have c2 := fun s => callA_j1 (phi Γ k) 15 s (b := true) (hb15 k) e2
        have c3 := fun s => callA_j1 (phi Γ k) 15 s (b := true) (hb15 k) e3
        obtain ⟨i, rfl⟩ := Int.eq_ofNat_of_zero_le a2
        have hi : i < xs.length := by omega
        obtain ⟨a, b, c, habc, A, B, C⟩ := Sms.parts hi hlay
        have x2 : L2.atI xs (i : Int) = some xs[i] := atI_of hi
        have q1 : cutD xs none (some (i : Int)) = xs.take i := cut_take
        have q2 : cutD xs (some ((i : Int) + 1)) none = xs.drop (i + 1) := by
          have := cut_drop (xs := xs) (k := i + 1)
          simpa using this
        have q3 : cutD xs none (some ((i : Int) + 1)) = xs.take (i + 1) := by
          have := cut_take (xs := xs) (k := i + 1)
          simpa using this
        have q4 : cutD xs (some (i : Int)) none = xs.drop i := cut_drop
        have badd : ∀ ys zs : List PyData, ys.length + zs.length ≤ 1000000 → binD .add (.tuple ys) (.tuple zs) = some (.val (.tuple (ys ++ zs))) := fun ys zs h => by
          simp only [binD]
          rw [if_pos (fits_of h)]
        have l1 : (xs.take i).length ≤ 300000 := by rw [List.length_take]; omega
        have l2 : (xs.drop (i + 1)).length ≤ 300000 := by rw [List.length_drop]; omega
        have l3 : (xs.take (i + 1)).length ≤ 300000 := by rw [List.length_take]; omega
        have l4 : (xs.drop i).length ≤ 300000 := by rw [List.length_drop]; omega
        have T1 : xs.take (i + 1) = xs.take i ++ [xs[i]] := by simp
        have D1 : xs.drop i = xs[i] :: xs.drop (i + 1) := by simp
        by_cases h3 : v3 < 3
        · obtain ⟨v4, j4, e4, a4, k4⟩ := ih k (t + 3) j3 xs[i] b (by omega) (B.mono (Nat.le_refl _) hdp) (by omega) (k3.mono (by omega)) (by omega)
          have c4 := fun s => callA_j1 (phi Γ k) 27 s (b := true) (by rw [by_phi]; rfl) e4
          refine ⟨.tuple (xs.take i ++ [v4] ++ xs.drop (i + 1)), j4, ?_, ?_, k4.mono (by omega)⟩
          · simp only [List.append_assoc]
            have w1 := badd (xs.take i) [v4] (by simp only [List.length_singleton]; omega)
            have w2 := badd (xs.take i ++ [v4]) (xs.drop (i + 1)) (by simp only [List.length_append, List.length_singleton]; omega)
            simp at w1 w2
            simp [runF, f__law_km_bent, startA, fargS, finR, iosOf, rvA, c1, p1, instOk, instD, hemp, hxs, c2, c3, c4, h3, q1, q2, x2, w1, w2, setAll, -List.append_assoc]
          · have := Sm.tup (((A.app (Sms.one a4)).app C))
            exact this.mono (by omega) (by omega)
        · have h3' : v3 = 3 ∨ v3 = 4 ∨ v3 = 5 ∨ v3 = 6 ∨ v3 = 7 ∨ v3 = 8 := by omega
          have w1 := badd (xs.take i) [x1] (by simp only [List.length_singleton]; omega)
          have w2 := badd (xs.take i ++ [x1]) (xs.drop (i + 1)) (by simp only [List.length_append, List.length_singleton]; omega)
          have w3 := badd (xs.take i) (xs.drop (i + 1)) (by omega)
          have w4 := badd (xs.take (i + 1)) (xs.drop i) (by omega)
          have w5 := badd (xs.take i) (xs.drop i).reverse (by rw [List.length_reverse]; omega)
          have w6 := badd xs [x1] (by simp only [List.length_singleton]; omega)
          have f6 : fits 6 = true := fits_6
          have run : ∀ (m : Nat) (y : PyData), v3 = ((m + 3 : Nat) : Int) → [PyData.tuple (xs.take i ++ [x1] ++ xs.drop (i + 1)), .tuple (xs.take i ++ xs.drop (i + 1)), .tuple (xs.take (i + 1) ++ xs.drop i), .tuple (xs.take i ++ (xs.drop i).reverse), .list xs, .tuple (xs ++ [x1])][m]? = some y →
              runF (phi Γ k) f__law_km_bent [.io jar, .val (.tuple xs)] = .ret (.val y) [j3] := by
            intro m y hm hy
            have hat : L2.atI [PyData.tuple (xs.take i ++ [x1] ++ xs.drop (i + 1)), .tuple (xs.take i ++ xs.drop (i + 1)), .tuple (xs.take (i + 1) ++ xs.drop i), .tuple (xs.take i ++ (xs.drop i).reverse), .list xs, .tuple (xs ++ [x1])] (v3 - 3) = some y := by
              have hmlt : m < 6 := by omega
              have e : v3 - 3 = ((m : Nat) : Int) := by omega
              rw [e]
              rw [atI_of (by simpa using hmlt)]
              rw [List.getElem?_eq_getElem (by simpa using hmlt)] at hy
              exact hy
            have h3n : ¬ v3 < 3 := h3
            simp only [List.append_assoc] at w1 w2 w3 w4 w5 w6 hat
            simp at w1 w2 w3 w4 w5 w6 hat
            simp [runF, f__law_km_bent, startA, fargS, finR, iosOf, rvA, c1, p1, instOk, instD, hemp, hxs, c2, c3, h3n, q1, q2, q3, q4, w1, w2, w3, w4, w5, w6, setAll, methM, mOk, lt_line, hat]
          rcases h3' with h | h | h | h | h | h
          · exact ⟨_, j3, run 0 _ h rfl, (Sm.tup ((A.app (Sms.one o1)).app C)).mono (by omega) (by omega), k3.mono (by omega)⟩
          · exact ⟨_, j3, run 1 _ h rfl, (Sm.tup (A.app C)).mono (by omega) (by omega), k3.mono (by omega)⟩
          · refine ⟨_, j3, run 2 _ h rfl, ?_, k3.mono (by omega)⟩
            rw [T1, D1]
            exact (Sm.tup ((A.app (Sms.one B)).app (Sms.cons B C))).mono (by omega) (by omega)
          · refine ⟨_, j3, run 3 _ h rfl, ?_, k3.mono (by omega)⟩
            rw [D1]
            exact (Sm.tup (A.app (Sms.cons B C).rev)).mono (by omega) (by omega)
          · refine ⟨_, j3, run 4 _ h rfl, ?_, k3.mono (by omega)⟩
            have : Sms xs (szs xs) dp := ⟨hlay, Nat.le_refl _, hdp⟩
            exact (Sm.lst this).mono (by omega) (by omega)
          · refine ⟨_, j3, run 5 _ h rfl, ?_, k3.mono (by omega)⟩
            have : Sms xs (szs xs) dp := ⟨hlay, Nat.le_refl _, hdp⟩
            exact (Sm.tup (this.app (Sms.one o1))).mono (by omega) (by omega)
    | _ =>
      refine early _ ?_
      simp [runF, f__law_km_bent, startA, fargS, finR, iosOf, rvA, c1, p1, instOk, instD]
def sumBent (args : List AArg) : Option (Bool × A × Nat) := match args with
  | [.jar, .val a] => (match a.size O1 with
    | some p => if decide (p.1 ≤ 100000) && decide (p.2 ≤ 12) then some (false, .any (2 * p.1 + 3) (p.2 + 1), 3 * p.2 + 3) else none
    | none => none)
  | _ => none
theorem bent_sum : ∀ args r, sumBent args = some r → ∀ n, 16 ≤ n → n ≤ 60 → SumOk RuleD (phi Γ n) (TN n) 27 args r := by
  intro args r e n hn h6 t fargs ht ha
  have ht' : t ≤ 90000000000000 := Int.le_trans ht (by unfold TN; omega)
  unfold sumBent at e
  split at e
  · rename_i a
    split at e
    · rename_i p hp
      split at e
      · rename_i hb
        rw [Bool.and_eq_true, decide_eq_true_eq, decide_eq_true_eq] at hb
        cases e
        obtain ⟨f1, f2, rfl, hj, hd⟩ := args2 ha
        obtain ⟨jar, rfl, hj⟩ := argJ hj
        obtain ⟨d, rfl, hd⟩ := argV hd
        obtain ⟨t0, hj⟩ := hj.nat
        have hz := (size_ok O1_ok hp).1 d hd
        obtain ⟨v, jar', e1, v0, hj'⟩ := r_bent p.2 n t.toNat jar d p.1 (by omega) ⟨hz.1, hz.2.1, hz.2.2⟩ (by omega) hj (by omega)
        refine ⟨_, _, e1, ⟨v0.lay, v0.sz, v0.dp⟩, ?_⟩
        have := jarInt hj'
        exact ⟨this.mono (show ((t.toNat + 3 * p.2 + 3 : Nat) : Int) ≤ t + ((3 * p.2 + 3 : Nat) : Int) by omega), trivial⟩
      · cases e
    · cases e
  · cases e
end K01
set_option Elab.async false
set_option linter.all false
set_option maxRecDepth 100000
set_option maxHeartbeats 8000000
namespace AM.AI
open PySem AM
theorem seq_assoc (o : SO) (f g : AS → SO) : (o.seq f).seq g = o.seq fun s => (f s).seq g := by cases o <;> rfl
theorem ex_split2 (Φ : Calls) (a b r : S) (s : AS) : ex Φ (.seq a (.seq b r)) s = (ex Φ (.seq a (.seq b .nil)) s).seq (ex Φ r) := by
  simp only [ex_seq, seq_assoc]
  congr 1
theorem ex_split3 (Φ : Calls) (a b c r : S) (s : AS) : ex Φ (.seq a (.seq b (.seq c r))) s = (ex Φ (.seq a (.seq b (.seq c .nil))) s).seq (ex Φ r) := by
  simp only [ex_seq, seq_assoc]
  congr 1
/-- a prefix goes on, to a state like τ -/
def chkNx (C : Cfg) (st : S) (σ τ : AE) : Bool := match exA C st σ with
  | some outs => outs.all fun o => match o with
    | .nx u => leSt C.O 0 u τ
    | _ => false
  | none => false
theorem nx_of {C : Cfg} {Φ : Calls} {T : Int} {ρ : Nat → PyData → Prop} (HC : CfgOk ρ C Φ T) {st : S} {c : AM.AI.Ctx} (hc : c.t0 + KMI ≤ T) {σ τ : AE} {s : AS} (hr : rel ρ c σ s) (e : chkNx C st σ τ = true) : ∃ s', ex Φ st s = .nx s' ∧ rel ρ c τ s' := by
  unfold chkNx at e
  split at e
  · rename_i outs h
    obtain ⟨o, ho, hR⟩ := exA_ok HC st c hc σ s _ hr h
    have := List.all_eq_true.mp e o ho
    generalize ex Φ st s = v at *
    cases o with
    | nx u => cases v with
      | nx s' => exact ⟨s', rfl, leSt_ok HC.O this (by simp) rfl hR⟩
      | _ => exact hR.elim
    | _ => cases this
  · cases e
theorem ints_of {ρ : Nat → PyData → Prop} {l h : Int} : ∀ {xs : List PyData}, (∀ x ∈ xs, (A.int l h).g ρ x) → ∃ ys : List Int, xs = ys.map .int ∧ ∀ y ∈ ys, l ≤ y ∧ y ≤ h
  | [], _ => ⟨[], rfl, by simp⟩
  | x :: xs, g => by
    obtain ⟨ys, rfl, h2⟩ := ints_of fun x m => g x (List.mem_cons_of_mem _ m)
    obtain ⟨i, rfl, h1⟩ := g x (List.mem_cons_self ..)
    refine ⟨i :: ys, rfl, fun y m => ?_⟩
    rcases List.mem_cons.mp m with rfl | m
    · exact h1
    · exact h2 y m
end AM.AI
namespace K01
open PySem AM AM.AI
def ru1 : S := (match f__law_km_rule.body with | .seq a (.seq b _) => .seq a (.seq b .nil) | s => s)
def ru0 (k : Int) : AE := [.jar true 0, .val (.int k k), .no, .no, .no, .no, .no]
def ruT (k : Nat) : AE := [.jar true 100, .val (.int k k), .own false (.rep (.int (-(10 ^ 41)) (10 ^ 41)) k k), .no, .no, .no, .no]
theorem ru_chk : ∀ k ∈ List.range 13, chkNx C3 ru1 (ru0 k) (ruT k) = true := by
  have : (List.range 13).all (fun k => chkNx C3 ru1 (ru0 k) (ruT k)) = true := by decide +kernel
  exact fun k m => List.all_eq_true.mp this k m
theorem r_rule {n : Nat} {t : Int} {k : Nat} {jar : List PyData} (hn : 5 ≤ n) (h6 : n ≤ 60) (ht : t ≤ TN n) (hj : JarI t jar) (k1 : 1 ≤ k) (k2 : k ≤ 12) :
    ∃ v jar', (phi Γ n).go 24 [.io jar, .val (.int k)] = .ret (.val v) [jar'] ∧ RuleD k v ∧ JarI (t + 200) jar' := by
  obtain ⟨m, rfl⟩ : ∃ m, n = m + 1 := ⟨n - 1, by omega⟩
  rw [go_succ Γ m 24 _ (fd := f__law_km_rule) rfl]
  have hT := TN_succ m
  have hT0 : TN (m + 1) ≤ 90000000000000 := by unfold TN; omega
  have r0 : rel RuleD ⟨t, fun _ => []⟩ (ru0 k) [some (.own true jar), some (.val (.int k)), none, none, none, none, none] := by
    refine ⟨rfl, fun i => ?_⟩
    match i with
    | 0 => exact ⟨jar, rfl, hj.mono (by simp)⟩
    | 1 => exact ⟨_, rfl, k, rfl, Int.le_refl _, Int.le_refl _⟩
    | 2 => rfl
    | 3 => rfl
    | 4 => rfl
    | 5 => rfl
    | 6 => rfl
    | j + 7 => exact rfl
  obtain ⟨s1, e1, r1⟩ := nx_of (C3_ok m (by omega) (by omega)) (by show t + KMI ≤ TN m; omega) r0 (ru_chk k (List.mem_range.mpr (by omega)))
  obtain ⟨jar1, xs, rfl, hj1, hx⟩ : ∃ jar1 xs, s1 = [some (.own true jar1), some (.val (.int k)), some (.own false xs), none, none, none, none] ∧ JarI (t + 100) jar1 ∧ A.gl RuleD (.rep (.int (-(10 ^ 41)) (10 ^ 41)) k k) xs := by
    have hl := r1.len
    match s1, hl with
    | [a0, a1, a2, a3, a4, a5, a6], _ =>
      obtain ⟨jar1, e0, hj1⟩ := r1.at_ 0
      obtain ⟨d, e2, i, rfl, i1, i2⟩ := r1.at_ 1
      obtain ⟨xs, e3, hx⟩ := r1.at_ 2
      have e4 : a3 = none := r1.at_ 3
      have e5 : a4 = none := r1.at_ 4
      have e6 : a5 = none := r1.at_ 5
      have e7 : a6 = none := r1.at_ 6
      have e0 : a0 = some (.own true jar1) := by simpa using e0
      have e2 : a1 = some (.val (.int i)) := by simpa using e2
      have e3 : a2 = some (.own false xs) := by simpa using e3
      obtain rfl : i = k := by omega
      subst e0 e2 e3 e4 e5 e6 e7
      exact ⟨jar1, xs, rfl, hj1, hx⟩
  obtain ⟨x1, x2, hx⟩ := hx
  obtain ⟨ys, rfl, hy⟩ := ints_of hx
  rw [List.length_map] at x1 x2
  have hlen : ys.length = k := by omega
  have hbody : f__law_km_rule.body = .seq (match f__law_km_rule.body with | .seq a _ => a | s => s) (.seq (match f__law_km_rule.body with | .seq _ (.seq b _) => b | s => s) (match f__law_km_rule.body with | .seq _ (.seq _ r) => r | s => s)) := rfl
  have hrun : ex (phi Γ m) f__law_km_rule.body [some (.own true jar), some (.val (.int k)), none, none, none, none, none] = ex (phi Γ m) (match f__law_km_rule.body with | .seq _ (.seq _ r) => r | s => s) [some (.own true jar1), some (.val (.int k)), some (.own false (ys.map .int)), none, none, none, none] := by
    rw [hbody, ex_split2]
    have e1' : ex (phi Γ m) (.seq (match f__law_km_rule.body with | .seq a _ => a | s => s) (.seq (match f__law_km_rule.body with | .seq _ (.seq b _) => b | s => s) .nil)) [some (.own true jar), some (.val (.int k)), none, none, none, none, none] = _ := e1
    rw [e1']
    rfl
  obtain ⟨t1, hj1⟩ := hj1.nat
  -- the third statement
  have hc := compM_pure (src := (ys.map PyData.int, [(2, ys.map PyData.int)])) (own := [5]) (g := .nm 5) (tests := tsts (phi Γ m) (.cons (.cmp .ne (.var 5) (.lit (.int 0))) .nil)) (elt := vl (ev (phi Γ m) (.var 5))) (s := [some (.own true jar1), some (.val (.int k)), some (.own false (ys.map .int)), none, none, none, none]) (fun d => !isZ d) (fun d => d)
    (by simp [isOwn]) rfl rfl (by simp [chk, wipeA]) (fun d hd => by
      obtain ⟨i, _, rfl⟩ := List.mem_map.mp hd
      exact ⟨_, rfl, by simp [isZ, bne], fun _ => by simp, by simp⟩) (by simp; omega)
  rw [List.map_id'] at hc
  have hlay : PyData.canLayAll0 ((ys.map PyData.int).filter fun d => !isZ d) = true := lay_all fun x mm => by
    obtain ⟨i, _, rfl⟩ := List.mem_map.mp (List.mem_filter.mp mm).1
    rw [PyData.canLay0]
  obtain ⟨zs, jar3, e3, hz1, hz2, ⟨z0, hz0, hz3⟩, hj3⟩ : ∃ (zs : List Int) (jar3 : List PyData), ex (phi Γ m) (match f__law_km_rule.body with | .seq _ (.seq _ r) => r | s => s) [some (.own true jar1), some (.val (.int k)), some (.own false (ys.map .int)), none, none, none, none] = ex (phi Γ m) (match f__law_km_rule.body with | .seq _ (.seq _ (.seq _ r)) => r | s => s) [some (.own true jar3), some (.val (.int k)), some (.own false (zs.map .int)), none, none, none, none] ∧ zs.length = k ∧ (∀ z ∈ zs, -(10 ^ 41) ≤ z ∧ z ≤ 10 ^ 41) ∧ (∃ z ∈ zs, z ≠ 0) ∧ JarOk ((t + 100).toNat + 2) jar3 := by
    by_cases hq : ∃ z ∈ ys, z ≠ 0
    · refine ⟨ys, jar1, ?_, hlen, hy, hq, hj1.mono (by omega)⟩
      have h4 : ((ys.map PyData.int).filter fun d => !isZ d).isEmpty = false := by
        obtain ⟨z, hz, hz0⟩ := hq
        rw [List.isEmpty_eq_false_iff_exists_mem]
        exact ⟨.int z, List.mem_filter.mpr ⟨List.mem_map.mpr ⟨z, hz, rfl⟩, by simpa [isZ] using hz0⟩⟩
      generalize (ys.map PyData.int).filter (fun d => !isZ d) = fl at *
      simp [f__law_km_rule, gd] at hc ⊢
      simp [hc, cmp_eq_l hlay, h4]
    · have h4 : (ys.map PyData.int).filter (fun d => !isZ d) = [] := by
        rw [List.filter_eq_nil_iff]
        intro d hd
        obtain ⟨z, hz, rfl⟩ := List.mem_map.mp hd
        have : z = 0 := Classical.byContradiction fun h => hq ⟨z, hz, h⟩
        simp [isZ, this]
      rw [h4] at hc hlay
      obtain ⟨w, j2, f2, w1, w2⟩ := r_one (n := m) (ths := [.int 1, .int (-1), .int 2, .int (-3)]) (by omega) hj1 (by omega) (by simp) (by simp)
      obtain ⟨v, j3, f3, v0, v1, v2⟩ := r_take (n := m) (m := k) (by omega) w2 (by omega) (by omega) (by omega)
      have c2 := fun s => callA_j1 (phi Γ m) 16 s (b := true) (hb16 m) f2
      have c3 := fun s => callA_j1 (phi Γ m) 15 s (b := true) (hb15 m) f3
      obtain ⟨wi, rfl, hw⟩ : ∃ wi : Int, w = .int wi ∧ (wi = 1 ∨ wi = -1 ∨ wi = 2 ∨ wi = -3) := by
        simp at w1
        rcases w1 with rfl | rfl | rfl | rfl <;> exact ⟨_, rfl, by simp⟩
      have hix : L2.ixN ys.length v = some v.toNat := ixN_in v0 (by omega)
      refine ⟨ys.set v.toNat wi, j3, ?_, by simpa using hlen, fun z hz => ?_, ⟨wi, List.mem_iff_getElem.mpr ⟨v.toNat, by rw [List.length_set]; omega, by simp⟩, by omega⟩, v2.mono (by omega)⟩
      · simp [f__law_km_rule, gd] at hc ⊢
        (try simp at c2); (try simp at c3)
        simp [hc, cmp_eq_l hlay, c2, c3, rvA, setM, hix, List.map_set]
      · rcases List.mem_or_eq_of_mem_set hz with hz | rfl
        · exact hy z hz
        · omega
  -- by, and the end
  obtain ⟨w, j4, f4, w1, w2⟩ := r_one (n := m) (ths := [.int 1, .int 1, .int 1, .int 2, .int 3, .int 5]) (by omega) hj3 (by omega) (by simp) (by simp)
  obtain ⟨b, rfl, hb⟩ : ∃ b : Int, w = .int b ∧ 1 ≤ b ∧ b ≤ 5 := by
    simp at w1
    rcases w1 with rfl | rfl | rfl | rfl <;> exact ⟨_, rfl, by simp⟩
  obtain ⟨u, j5, f5, u1, u2, u3⟩ := r_number (n := m) (by omega) w2 (by omega)
  obtain ⟨y, j6, f6, y1, y2⟩ := r_one (n := m) (ths := [.int 0, .int 1, .int (-1), .int 2, .int (-4), .int 6, .int u]) (by omega) u3 (by omega) (by simp) (by simp)
  obtain ⟨x0, rfl, hx0⟩ : ∃ b : Int, y = .int b ∧ -(10 ^ 41) ≤ b ∧ b ≤ 10 ^ 41 := by
    simp at y1
    rcases y1 with rfl | rfl | rfl | rfl | rfl | rfl | rfl <;> exact ⟨_, rfl, by omega⟩
  have c4 := fun s => callA_j1 (phi Γ m) 16 s (b := true) (hb16 m) f4
  have c5 := fun s => callA_j0 (phi Γ m) 23 s (b := true) (by rw [by_phi]; rfl) f5
  have c6 := fun s => callA_j1 (phi Γ m) 16 s (b := true) (hb16 m) f6
  have hmul : ∀ z : Int, -(10 ^ 41) ≤ z → z ≤ 10 ^ 41 → binD .mul (.int b) (.int z) = some (.val (.int (b * z))) := fun z h1 h2 => by
    simp only [binD]
    rw [if_pos (mul_ok (by omega) (by omega))]
  have hall : ∀ z ∈ x0 :: zs, -(10 ^ 41) ≤ z ∧ z ≤ 10 ^ 41 := fun z hz => by
    rcases List.mem_cons.mp hz with rfl | hz
    · exact hx0
    · exact hz2 z hz
  have hc2 := compM_pure (src := ((x0 :: zs).map PyData.int, [])) (own := [6]) (g := .nm 6) (tests := tsts (phi Γ m) .nil) (elt := vl (ev (phi Γ m) (.bin .mul (.var 3) (.var 6)))) (s := [some (.own true j6), some (.val (.int k)), some (.own false (zs.map .int)), some (.val (.int b)), none, none, none]) (fun _ => true) (fun d => match d with | .int z => .int (b * z) | d => d)
    (by simp [isOwn]) rfl rfl rfl (fun d hd => by
      obtain ⟨i, hi, rfl⟩ := List.mem_map.mp hd
      exact ⟨_, rfl, by simp, fun _ => by simp [hmul i (hall i hi).1 (hall i hi).2], by simp⟩) (by simp; omega)
  rw [filter_id, List.map_map] at hc2
  have hmm : ((fun d => match d with | .int z => PyData.int (b * z) | d => d) ∘ PyData.int) = fun z : Int => PyData.int (b * z) := rfl
  rw [hmm] at hc2
  refine ⟨.tuple ((x0 :: zs).map fun z => .int (b * z)), j6, ?_, ⟨(x0 :: zs).map (b * ·), by simp, by simp [hz1], fun z hz => ?_, ⟨b * z0, ?_, ?_⟩⟩, ?_⟩
  · have hfits : fits ([PyData.int x0].length + (zs.map PyData.int).length) = true := fits_of (by simp; omega)
    have hadd : binD .add (.list [.int x0]) (.list (zs.map .int)) = some (.new (.int x0 :: zs.map .int)) := by
      simp only [binD]
      rw [if_pos hfits]
      rfl
    have hst : startA f__law_km_rule.ns [.io jar, .val (.int k)] = [some (.own true jar), some (.val (.int k)), none, none, none, none, none] := rfl
    unfold runF
    have hnp : [FArg.io jar, FArg.val (.int (k : Int))].length = f__law_km_rule.np := rfl
    rw [if_pos hnp, hst, hrun, e3]
    simp [f__law_km_rule] at hc2 ⊢
    (try simp at c4); (try simp at c5); (try simp at c6)
    simp [c4, c5, c6, rvA, hadd, hc2, finR, iosOf]
  · obtain ⟨i, hi, rfl⟩ := List.mem_map.mp hz
    have := hall i hi
    constructor
    · rcases Int.le_total 0 i with h | h
      · have := Int.mul_nonneg (show 0 ≤ b by omega) h
        omega
      · have := Int.mul_le_mul_of_nonpos_right (show b ≤ 5 by omega) h
        omega
    · rcases Int.le_total 0 i with h | h
      · have := Int.mul_le_mul_of_nonneg_right (show b ≤ 5 by omega) h
        omega
      · have := Int.mul_nonpos_of_nonneg_of_nonpos (show 0 ≤ b by omega) h
        omega
  · simp only [List.map_cons, List.tail_cons]
    exact List.mem_map.mpr ⟨z0, hz0, rfl⟩
  · intro h
    rcases Int.mul_eq_zero.mp h with h | h
    · omega
    · exact hz3 h
  · exact (jarInt y2).mono (by omega)
end K01
set_option Elab.async false
set_option linter.all false
set_option maxRecDepth 100000
set_option maxHeartbeats 8000000
namespace K01
open PySem AM AM.AI
def t_rule : Tab := (List.range 12).map fun k => ([.jar, .val (.int (k + 1 : Nat) (k + 1 : Nat))], (false, .op (k + 1), 200))
theorem args1 {ρ : Nat → PyData → Prop} {t : Int} {a : AArg} : ∀ {fs : List FArg}, argsR ρ t [a] fs → ∃ f, fs = [f] ∧ argR ρ t a f
  | [], h => h.elim
  | [f], h => ⟨f, rfl, h.1⟩
  | _ :: _ :: _, h => h.2.elim
def C4 : Cfg := C3.add 24 t_rule
theorem C4_ok : CfgAt RuleD C4 Γ 5 := by
  refine add_tab C3_ok (by omega) fun p hp n hn h6 t fargs ht ha => ?_
  obtain ⟨k, hk, rfl⟩ := List.mem_map.mp hp
  rw [List.mem_range] at hk
  obtain ⟨f1, f2, rfl, hj, hd⟩ := args2 ha
  obtain ⟨jar, rfl, hj⟩ := argJ hj
  obtain ⟨d, rfl, i, rfl, i1, i2⟩ := argV hd
  obtain rfl : i = (k + 1 : Nat) := by omega
  obtain ⟨v, jar', e1, v0, hj'⟩ := r_rule hn h6 ht hj (show 1 ≤ k + 1 by omega) (by omega)
  exact ⟨_, _, e1, v0, hj', trivial⟩
def C5 : Cfg := C4.addG 27 sumBent
theorem C5_ok : CfgAt RuleD C5 Γ 16 := add_fun C4_ok (by omega) bent_sum
end K01
set_option Elab.async false
set_option linter.all false
set_option maxRecDepth 100000
set_option maxHeartbeats 8000000
namespace K01
open PySem AM AM.AI
theorem wr_row : ∀ k, k < 12 → defOk (C5.spl []) f__law_fm_wrong_rules [.jar, .val (.int (k + 1 : Nat) (k + 1 : Nat)), .val (.op (k + 1))] (true, .rep (.any 100 5) 0 60, 100) = true
  | 0, _ => by decide +kernel
  | 1, _ => by decide +kernel
  | 2, _ => by decide +kernel
  | 3, _ => by decide +kernel
  | 4, _ => by decide +kernel
  | 5, _ => by decide +kernel
  | 6, _ => by decide +kernel
  | 7, _ => by decide +kernel
  | 8, _ => by decide +kernel
  | 9, _ => by decide +kernel
  | 10, _ => by decide +kernel
  | 11, _ => by decide +kernel
  | k + 12, h => absurd h (by omega)
theorem wrong_rules_ok {k : Nat} (hk : k < 12) : ∀ n, 17 ≤ n → n ≤ 60 → SumOk RuleD (phi Γ n) (TN n) 28 [.jar, .val (.int (k + 1 : Nat) (k + 1 : Nat)), .val (.op (k + 1))] (true, .rep (.any 100 5) 0 60, 100) :=
  fun n hn h6 => sum_def C5_ok (fd := f__law_fm_wrong_rules) rfl (wr_row k hk) n (by omega) h6
def shB (m n : Nat) : A := .tup (.cons (.int 0 12) (.cons (.tup (.rep (.tup (.rep (.int (-(10 ^ 42)) (10 ^ 42)) 1 13)) m n)) .nil))
theorem book_ok : ∀ n, 17 ≤ n → n ≤ 60 → SumOk RuleD (phi Γ n) (TN n) 26 [.jar] (false, shB 0 25, 5000) := by
  have h : defOk (C5.spl [1]) f__law_km_book [.jar] (false, shB 0 25, 5000) = true := by decide +kernel
  exact fun n hn h6 => sum_def C5_ok (fd := f__law_km_book) rfl h n (by omega) h6
theorem wb_row : ∀ k, k < 26 → defOk (C5.spl []) f__law_fm_wrong_books [.jar, .val (shB k k)] (true, .rep (.any 1500 6) 0 60, 100) = true
  | 0, _ => by decide +kernel
  | 1, _ => by decide +kernel
  | 2, _ => by decide +kernel
  | 3, _ => by decide +kernel
  | 4, _ => by decide +kernel
  | 5, _ => by decide +kernel
  | 6, _ => by decide +kernel
  | 7, _ => by decide +kernel
  | 8, _ => by decide +kernel
  | 9, _ => by decide +kernel
  | 10, _ => by decide +kernel
  | 11, _ => by decide +kernel
  | 12, _ => by decide +kernel
  | 13, _ => by decide +kernel
  | 14, _ => by decide +kernel
  | 15, _ => by decide +kernel
  | 16, _ => by decide +kernel
  | 17, _ => by decide +kernel
  | 18, _ => by decide +kernel
  | 19, _ => by decide +kernel
  | 20, _ => by decide +kernel
  | 21, _ => by decide +kernel
  | 22, _ => by decide +kernel
  | 23, _ => by decide +kernel
  | 24, _ => by decide +kernel
  | 25, _ => by decide +kernel
  | k + 26, h => absurd h (by omega)
theorem wrong_books_ok {k : Nat} (hk : k < 26) : ∀ n, 17 ≤ n → n ≤ 60 → SumOk RuleD (phi Γ n) (TN n) 30 [.jar, .val (shB k k)] (true, .rep (.any 1500 6) 0 60, 100) :=
  fun n hn h6 => sum_def C5_ok (fd := f__law_fm_wrong_books) rfl (wb_row k hk) n (by omega) h6
end K01
set_option Elab.async false
set_option linter.all false
set_option maxRecDepth 100000
set_option maxHeartbeats 8000000
namespace AM
open PySem
def toldO (Φ : Calls) (f : Nat) (o : Out PyData) : Out AV := match o with
  | .ok d s1 => .ok (.val (.tuple [.str "told", d])) s1
  | .err c w s1 => (match Φ.told f c w with
    | some d => .ok (.val d) s1
    | none => .bad)
  | .bad => .bad
@[simp] theorem toldM_ap (Φ : Calls) (f : Nat) (m : M AV) : toldM Φ f m = fun s => toldO Φ f (vl m s) := Eq.trans rfl rfl
@[simp] theorem toldO_ok (Φ : Calls) (f : Nat) (d : PyData) (s : AS) : toldO Φ f (.ok d s) = .ok (.val (.tuple [.str "told", d])) s := Eq.trans rfl rfl
theorem toldO_err {Φ : Calls} {f c : Nat} {w d : PyData} {s : AS} (h : Φ.told f c w = some d) : toldO Φ f (.err c w s) = .ok (.val d) s := by
  unfold toldO
  simp only [h]
theorem Sm.two {a b : PyData} {s p s' p' : Nat} (h : Sm a s p) (h' : Sm b s' p') : Sm (.tuple [a, b]) (s + s' + 1) (max p p' + 1) := Sm.tup (Sms.cons h (Sms.one h'))
theorem Sm.of {d : PyData} {s p : Nat} (h1 : d.canLay0 = true) (h2 : AM.sz d ≤ s) (h3 : d.depth ≤ p) : Sm d s p := ⟨h1, h2, h3⟩
theorem Sm.int (i : Int) : Sm (.int i) 1 0 := ⟨rfl, by simp [AM.sz], by simp [PyData.depth]⟩
theorem Sm.bool (i : Bool) : Sm (.bool i) 1 0 := ⟨rfl, by simp [AM.sz], by simp [PyData.depth]⟩
theorem Sm.non : Sm .none 1 0 := ⟨rfl, by simp [AM.sz], by simp [PyData.depth]⟩
theorem Sm.ok {d : PyData} {s p : Nat} (h : Sm d s p) (hs : s ≤ 1000000) : Ok d := ⟨h.lay, by have := h.sz; omega⟩
/-- it goes on so -/
def nxP (I : AS → Prop) (o : SO) : Prop := match o with
  | .nx s => I s
  | _ => False
@[simp] theorem nxP_nx (I : AS → Prop) (s : AS) : nxP I (.nx s) = I s := Eq.trans rfl rfl
theorem forL_all {g : AM.G} {b : AS → SO} (I : AS → Prop) : ∀ (ds : List PyData) (s : AS), (∀ d ∈ ds, ∀ s, I s → ∃ s1, bindG g d s = some s1 ∧ nxP I (b s1)) → I s → ∃ s', forL g b ds s = .nx s' ∧ I s' := by
  intro ds s h hi
  obtain ⟨s', h1, h2⟩ := forL_inv (b := b) (fun _ => I) ds 0 s (fun d m k s hs => by
    obtain ⟨s1, h1, h2⟩ := h d m s hs
    generalize hb : b s1 = o at *
    cases o with
    | nx s2 => exact ⟨s1, s2, h1, hb, h2⟩
    | _ => exact h2.elim) hi
  exact ⟨s', h1, h2⟩
end AM
namespace K01
open PySem AM AM.AI
theorem sm_told {d : PyData} {s p : Nat} (h : Sm d s p) : Sm (.tuple [.str "told", d]) (s + 2) (p + 1) := (Sm.two (s := 1) (p := 0) ⟨by decide +kernel, by simp [AM.sz], by simp [PyData.depth]⟩ h).mono (by omega) (by omega)
theorem sm_nm {c : Nat} {d : PyData} {s p : Nat} (h : Sm d s p) : Sm (.tuple [.str (nmC c), d]) (s + 2) (p + 1) := by
  have : ∀ c, (PyData.str (nmC c)).canLay0 = true := fun c => by
    match c with
    | 0 => decide +kernel
    | 1 => decide +kernel
    | 2 => decide +kernel
    | 3 => decide +kernel
    | 4 => decide +kernel
    | _ + 5 => show (PyData.str "BadWeights").canLay0 = true; decide +kernel
  exact (Sm.two (s := 1) (p := 0) ⟨this c, by simp [AM.sz], by simp [PyData.depth]⟩ h).mono (by omega) (by omega)
theorem rf_cases (k : Int) (d : PyData) : rf k d = .none ∨ ∃ i, rf k d = .int i := by
  unfold rf
  split
  · split
    · exact .inr ⟨_, rfl⟩
    · rcases fi_int (q := nonI) (i := 0) with h | ⟨j, h⟩
      · rw [h]
        simp only [isNone_none, if_true]
        split
        · exact .inr ⟨_, rfl⟩
        · exact .inl rfl
      · rw [h]
        exact .inr ⟨j, rfl⟩
  · exact .inr ⟨_, rfl⟩
theorem sm_rf (k : Int) (d : PyData) : Sm (rf k d) 1 0 := by
  rcases rf_cases k d with h | ⟨i, h⟩ <;> rw [h]
  · exact Sm.non
  · exact Sm.int i
theorem same_sm {n : Nat} {x : PyData} {s p : Nat} (hn : 1 < n) (h : Sm x s p) (hs : s ≤ 400000) : (phi Γ n).go 19 [.val x, .val x] = .ret (.val (.bool true)) [] := r_same hn h.lay (by have := h.sz; omega)
theorem ios_j {t : Int} {j : List PyData} {ios : List (List PyData)} (h : iosR t [.jar] [.io j] ios) : ∃ j', ios = [j'] ∧ JarI t j' := by
  cases ios with
  | nil => simp [iosR] at h
  | cons j' r => cases r with
    | nil => exact ⟨j', rfl, h.1⟩
    | cons _ _ => simp [iosR] at h
theorem ios_jv {t : Int} {a : A} {d : PyData} {j : List PyData} {ios : List (List PyData)} (h : iosR t [.jar, .val a] [.io j, .val d] ios) : ∃ j', ios = [j'] ∧ JarI t j' := by
  cases ios with
  | nil => simp [iosR] at h
  | cons j' r => cases r with
    | nil => exact ⟨j', rfl, h.1⟩
    | cons _ _ => simp [iosR] at h
theorem ios_jvv {t : Int} {a b : A} {d e : PyData} {j : List PyData} {ios : List (List PyData)} (h : iosR t [.jar, .val a, .val b] [.io j, .val d, .val e] ios) : ∃ j', ios = [j'] ∧ JarI t j' := by
  cases ios with
  | nil => simp [iosR] at h
  | cons j' r => cases r with
    | nil => exact ⟨j', rfl, h.1⟩
    | cons _ _ => simp [iosR] at h
theorem call_ok {ρ : Nat → PyData → Prop} {C : Cfg} {Γ : Prog} {N : Nat} (HC : CfgAt ρ C Γ N) {n : Nat} (hn : N ≤ n) (h6 : n ≤ 60) {f : Nat} {args : List AArg} {r : Bool × A × Nat} (e : C.fn f args = some r) : SumOk ρ (phi Γ n) (TN n) f args r := (HC n hn h6).fn f args r e
theorem r_entries1 {n : Nat} {t : Int} {jar : List PyData} (hn : 4 ≤ n) (h6 : n ≤ 60) (ht : t ≤ TN n) (hj : JarI t jar) : ∃ (v : Nat) (jar' : List PyData), (phi Γ n).go 25 [.io jar, .val (.int 1)] = .ret (.val (.int v)) [jar'] ∧ 1 ≤ v ∧ v ≤ 12 ∧ JarI (t + 1) jar' := by
  have hs : SumOk RuleD (phi Γ n) (TN n) 25 [.jar, .val (.int 1 1)] (false, .int 1 12, 1) := by
    have h : t_entries.all (fun p => defOk (C2.spl []) f__law_km_entries p.1 p.2) = true := by decide +kernel
    exact sum_def C2_ok (f := 25) (fd := f__law_km_entries) (sp := []) rfl (List.all_eq_true.mp h _ (by unfold t_entries; exact List.mem_cons_of_mem _ (List.mem_singleton.mpr rfl))) n hn h6
  obtain ⟨v, ios, e1, hv, hi⟩ := hs t [.io jar, .val (.int 1)] ht ⟨hj, ⟨1, rfl, Int.le_refl _, Int.le_refl _⟩, trivial⟩
  cases v with
  | new _ => exact hv.elim
  | val d =>
    obtain ⟨i, rfl, i1, i2⟩ := hv
    obtain ⟨j', rfl, hi2⟩ := ios_jv hi
    obtain ⟨k, rfl⟩ := Int.eq_ofNat_of_zero_le (show 0 ≤ i by omega)
    exact ⟨k, j', e1, by omega, by omega, hi2⟩
theorem r_rules_right {n : Nat} {t : Int} {jar : List PyData} (hn : 19 ≤ n) (h6 : n ≤ 60) (ht : t ≤ TN n) (hj : JarI t jar) : ∃ jar', (phi Γ n).go 29 [.io jar] = .ret (.val (.bool true)) [jar'] ∧ JarI (t + 301) jar' := by
  obtain ⟨m, rfl⟩ : ∃ m, n = m + 1 := ⟨n - 1, by omega⟩
  rw [go_succ Γ m 29 _ (fd := f__law_fm_rules_right) rfl]
  have hT := TN_succ m
  have hK : KMI = 1000000000000 := rfl
  obtain ⟨k, j1, e1, k1, k2, hj1⟩ := r_entries1 (n := m) (by omega) (by omega) (by omega) hj
  obtain ⟨rule, j2, e2, hrule, hj2⟩ := r_rule (n := m) (by omega) (by omega) (by omega) hj1 k1 k2
  have hs := wrong_rules_ok (k := k - 1) (by omega) m (by omega) (by omega)
  have hk : k - 1 + 1 = k := by omega
  simp only [hk] at hs
  obtain ⟨v, ios, e3, hv, hi⟩ := hs (t + 1 + 200) [.io j2, .val (.int k), .val rule] (by omega) ⟨hj2, ⟨k, rfl, Int.le_refl _, Int.le_refl _⟩, hrule, trivial⟩
  cases v with
  | val _ => exact hv.elim
  | new xs =>
    obtain ⟨j3, rfl, hi2⟩ := ios_jvv hi
    have hj3 : JarI (t + 1 + 200 + (100 : Nat)) j3 := hi2
    have hx : xs.length ≤ 60 ∧ ∀ x ∈ xs, Sm x 100 5 := ⟨hv.2.1, fun x m => ⟨(hv.2.2 x m).1, (hv.2.2 x m).2.1, (hv.2.2 x m).2.2⟩⟩
    have c1 := fun s => callA_j1 (phi Γ m) 25 s (b := true) (by rw [by_phi]; rfl) e1
    have c2 := fun s => callA_j1 (phi Γ m) 24 s (b := true) (by rw [by_phi]; rfl) e2
    have c3 := fun s => callA_j2 (phi Γ m) 28 s (b := true) (by rw [by_phi]; rfl) e3
    refine ⟨j3, ?_, hj3.mono (by omega)⟩
    obtain ⟨s', f1, a, b, c, rfl⟩ := forL_all (g := .nm 2) (b := ex (phi Γ m) (match f__law_fm_rules_right.body with | .seq _ (.seq (.forr _ _ b) _) => b | s => s)) (fun s => ∃ a b c, s = [some (.own true j3), some (.val (.int k)), a, b, c]) xs [some (.own true j3), some (.val (.int k)), none, none, none] (fun d hd s hs => by
      obtain ⟨a, b, c, rfl⟩ := hs
      have hd := hx.2 d hd
      have hok : Ok d := hd.ok (by omega)
      have g1 := r_rf (n := m) (k := k) (by omega) hok.lay hok.len
      have g2 := r_made (n := m) (k := .int k) (by omega) rfl hok
      have g3 := r_isr (n := m) (k := .int k) (by omega) rfl hok
      have hin : inI (.int (k : Int)) 0 12 = true := by
        unfold inI
        simp only [Bool.and_eq_true, decide_eq_true_eq]
        omega
      simp only [hin, if_true] at g2 g3
      rcases rf_cases k d with h | ⟨i, h⟩
      · rw [h] at g1 g2 g3
        have q1 := same_sm (n := m) (by omega) (sm_told hd) (by omega)
        have q2 := same_sm (n := m) (by omega) (sm_told (Sm.bool true)) (by omega)
        simp only [isNone_none, if_true] at g2 g3
        refine ⟨_, rfl, ?_⟩
        simp [f__law_fm_rules_right, g1, g2, g3, q1, q2]
      · rw [h] at g1 g2 g3
        have q1 := same_sm (n := m) (by omega) (sm_nm (c := 3) (Sm.int i)) (by omega)
        have q2 := same_sm (n := m) (by omega) (sm_told (Sm.bool false)) (by omega)
        simp at g2 g3
        have t1 : (phi Γ m).told 0 3 (.int i) = some (.tuple [.str (nmC 3), .int i]) := by rw [told_phi]; exact told_c 3 _ (by omega) (by omega)
        have n3 : nmC 3 = ("BadRule" : Str) := rfl
        rw [n3] at q1 t1
        refine ⟨_, rfl, ?_⟩
        simp [f__law_fm_rules_right, g1, g2, g3, q1, q2, toldO_err t1]) ⟨_, _, _, rfl⟩
    simp [f__law_fm_rules_right] at f1
    simp [runF, f__law_fm_rules_right, startA, fargS, c1, c2, c3, rvA, f1, finR, iosOf]
end K01
set_option Elab.async false
set_option linter.all false
set_option maxRecDepth 100000
set_option maxHeartbeats 8000000
namespace K01
open PySem AM AM.AI
theorem bkF_cases (d : PyData) : bkF d = none ∨ ∃ c w, bkF d = some (c, w) ∧ (c = 2 ∨ c = 4) ∧ Sm w 10 2 := by
  have hfi : ∀ (q : PyData → Bool) (xs : List PyData), Sm (fi q 0 xs) 1 0 := fun q xs => by
    rcases fi_int (q := q) (xs := xs) (i := 0) with h | ⟨j, h⟩ <;> rw [h]
    · exact Sm.non
    · exact Sm.int _
  have hwo : Sm (wo d) 1 0 := by
    unfold wo
    split
    · split
      · split
        · exact Sm.non
        · exact Sm.int _
      · exact Sm.int _
    · exact Sm.int _
  unfold bkF
  split
  · split
    · split
      · exact .inr ⟨2, _, rfl, .inl rfl, (Sm.int _).mono (by omega) (by omega)⟩
      · split
        · exact .inl rfl
        · exact .inr ⟨4, _, rfl, .inr rfl, (Sm.two (Sm.int 1) (hfi _ _)).mono (by omega) (by omega)⟩
    · first | exact .inl rfl | exact .inr ⟨_, _, rfl, by simp, hwo.mono (by omega) (by omega)⟩ | exact .inr ⟨_, _, rfl, by simp, (Sm.int _).mono (by omega) (by omega)⟩
  · exact .inr ⟨4, _, rfl, .inr rfl, hwo.mono (by omega) (by omega)⟩
theorem r_book {n : Nat} {t : Int} {jar : List PyData} (hn : 17 ≤ n) (h6 : n ≤ 60) (ht : t ≤ TN n) (hj : JarI t jar) : ∃ (d : PyData) (jar' : List PyData) (k : Nat), (phi Γ n).go 26 [.io jar] = .ret (.val d) [jar'] ∧ k < 26 ∧ (shB k k).g RuleD d ∧ JarI (t + 5000) jar' := by
  obtain ⟨v, ios, e1, hv, hi⟩ := book_ok n hn h6 t [.io jar] ht ⟨hj, trivial⟩
  cases v with
  | new _ => exact hv.elim
  | val d =>
    obtain ⟨j', rfl, hi2⟩ := ios_j hi
    obtain ⟨xs, rfl, y, ys, rfl, g1, z, zs, rfl, ⟨rs, rfl, r1, r2, r3⟩, g3⟩ := hv
    exact ⟨_, j', rs.length, e1, by omega, ⟨_, rfl, y, _, rfl, g1, _, zs, rfl, ⟨rs, rfl, Nat.le_refl _, Nat.le_refl _, r3⟩, g3⟩, hi2⟩
theorem r_books_right {n : Nat} {t : Int} {jar : List PyData} (hn : 19 ≤ n) (h6 : n ≤ 60) (ht : t ≤ TN n) (hj : JarI t jar) : ∃ jar', (phi Γ n).go 31 [.io jar] = .ret (.val (.bool true)) [jar'] ∧ JarI (t + 5100) jar' := by
  obtain ⟨m, rfl⟩ : ∃ m, n = m + 1 := ⟨n - 1, by omega⟩
  rw [go_succ Γ m 31 _ (fd := f__law_fm_books_right) rfl]
  have hT := TN_succ m
  have hK : KMI = 1000000000000 := rfl
  obtain ⟨bk, j1, k, e1, hk, hbk, hj1⟩ := r_book (n := m) (by omega) (by omega) (by omega) hj
  obtain ⟨v, ios, e3, hv, hi⟩ := wrong_books_ok hk m (by omega) (by omega) (t + 5000) [.io j1, .val bk] (by omega) ⟨hj1, hbk, trivial⟩
  cases v with
  | val _ => exact hv.elim
  | new xs =>
    obtain ⟨j3, rfl, hi2⟩ := ios_jv hi
    have hj3 : JarI (t + 5000 + (100 : Nat)) j3 := hi2
    have hx : xs.length ≤ 60 ∧ ∀ x ∈ xs, Sm x 1500 6 := ⟨hv.2.1, fun x m => ⟨(hv.2.2 x m).1, (hv.2.2 x m).2.1, (hv.2.2 x m).2.2⟩⟩
    have c1 := fun s => callA_j0 (phi Γ m) 26 s (b := true) (by rw [by_phi]; rfl) e1
    have c3 := fun s => callA_j1 (phi Γ m) 30 s (b := true) (by rw [by_phi]; rfl) e3
    refine ⟨j3, ?_, hj3.mono (by omega)⟩
    obtain ⟨s', f1, a, b, c, rfl⟩ := forL_all (g := .nm 1) (b := ex (phi Γ m) (match f__law_fm_books_right.body with | .seq (.forr _ _ b) _ => b | s => s)) (fun s => ∃ a b c, s = [some (.own true j3), a, b, c]) xs [some (.own true j3), none, none, none] (fun d hd s hs => by
      obtain ⟨a, b, c, rfl⟩ := hs
      have hd := hx.2 d hd
      have hok : Ok d := hd.ok (by omega)
      have g1 := r_bf (n := m) (by omega) hok
      have g2 := r_mb (n := m) (by omega) hok
      have g3 := r_isb (n := m) (by omega) hok
      rcases bkF_cases d with h | ⟨c, w, h, hc, hw⟩
      · rw [h] at g1 g2 g3
        have q1 := same_sm (n := m) (by omega) (sm_told hd) (by omega)
        have q2 := same_sm (n := m) (by omega) (sm_told (Sm.bool true)) (by omega)
        refine ⟨_, rfl, ?_⟩
        simp [f__law_fm_books_right, g1, g2, g3, q1, q2, frO, bkD]
      · rw [h] at g1 g2 g3
        have q1 := same_sm (n := m) (by omega) (sm_nm (c := c) hw) (by omega)
        have q2 := same_sm (n := m) (by omega) (sm_told (Sm.bool false)) (by omega)
        have t1 : (phi Γ m).told 0 c w = some (.tuple [.str (nmC c), w]) := by rw [told_phi]; exact told_c c _ (by omega) (by omega)
        refine ⟨_, rfl, ?_⟩
        rcases hc with rfl | rfl
        · have n3 : nmC 2 = ("TooMany" : Str) := rfl
          rw [n3] at q1 t1
          simp [f__law_fm_books_right, g1, g2, g3, q1, q2, toldO_err t1, frO, bkD]
        · have n3 : nmC 4 = ("BadBook" : Str) := rfl
          rw [n3] at q1 t1
          simp [f__law_fm_books_right, g1, g2, g3, q1, q2, toldO_err t1, frO, bkD]) ⟨_, _, _, rfl⟩
    simp [f__law_fm_books_right] at f1
    simp [runF, f__law_fm_books_right, startA, fargS, c1, c3, rvA, f1, finR, iosOf]
end K01
set_option Elab.async false
set_option linter.all false
set_option maxRecDepth 100000
set_option maxHeartbeats 8000000
namespace AM.AI
open PySem AM
theorem rel_slots {ρ : Nat → PyData → Prop} {c : AM.AI.Ctx} {σ : AE} {s : AS} (h : rel ρ c σ s) (i : Nat) : slR ρ c i (sa σ i) (sl s i) := h.at_ i
theorem ex_split4 (Φ : Calls) (a b c d r : S) (s : AS) : ex Φ (.seq a (.seq b (.seq c (.seq d r)))) s = (ex Φ (.seq a (.seq b (.seq c (.seq d .nil)))) s).seq (ex Φ r) := by
  simp only [ex_seq, seq_assoc]
  congr 1
theorem ex_split1 (Φ : Calls) (a r : S) (s : AS) : ex Φ (.seq a r) s = (ex Φ (.seq a .nil) s).seq (ex Φ r) := by
  simp only [ex_seq, seq_assoc]
  congr 1
end AM.AI
namespace K01
open PySem AM AM.AI
theorem wf_cases (k : Int) (d : PyData) : wf k d = .none ∨ ∃ i, wf k d = .int i := by
  unfold wf
  split
  · split
    · rcases fi_int (q := noW) (i := 0) with h | ⟨j, h⟩
      · exact .inl h
      · exact .inr ⟨j, h⟩
    · exact .inr ⟨_, rfl⟩
  · exact .inr ⟨_, rfl⟩
def w4 : S := (match f__law_fm_weights_right.body with | .seq a (.seq b (.seq c (.seq d _))) => .seq a (.seq b (.seq c (.seq d .nil))) | s => s)
def wR : S := (match f__law_fm_weights_right.body with | .seq a (.seq b (.seq c (.seq d r))) => r | s => s)
def w0 : AE := [.jar true 0, .no, .no, .no, .no, .no, .no, .no, .no, .no]
def wT : AE := [.jar true 500, .val (.int 0 24), .top, .own false (.rep (.any 500 5) 0 60), .no, .top, .no, .no, .top, .top]
theorem w_chk : chkNx C5 w4 w0 wT = true := by decide +kernel
theorem r_weights_right {n : Nat} {t : Int} {jar : List PyData} (hn : 19 ≤ n) (h6 : n ≤ 60) (ht : t ≤ TN n) (hj : JarI t jar) : ∃ jar', (phi Γ n).go 32 [.io jar] = .ret (.val (.bool true)) [jar'] ∧ JarI (t + 500) jar' := by
  obtain ⟨m, rfl⟩ : ∃ m, n = m + 1 := ⟨n - 1, by omega⟩
  rw [go_succ Γ m 32 _ (fd := f__law_fm_weights_right) rfl]
  have hT := TN_succ m
  have hK : KMI = 1000000000000 := rfl
  have r0 : rel RuleD ⟨t, fun _ => []⟩ w0 [some (.own true jar), none, none, none, none, none, none, none, none, none] := by
    refine ⟨rfl, fun i => ?_⟩
    match i with
    | 0 => exact ⟨jar, rfl, hj.mono (by simp)⟩
    | 1 => rfl
    | 2 => rfl
    | 3 => rfl
    | 4 => rfl
    | 5 => rfl
    | 6 => rfl
    | 7 => rfl
    | 8 => rfl
    | 9 => rfl
    | j + 10 => exact rfl
  obtain ⟨s1, e1, r1⟩ := nx_of (C5_ok m (by omega) (by omega)) (by show t + KMI ≤ TN m; omega) r0 w_chk
  obtain ⟨j1, k, xs, x2, x5, x8, x9, rfl, hj1, k0, k1, hx⟩ : ∃ j1 k xs x2 x5 x8 x9, s1 = [some (.own true j1), some (.val (.int k)), x2, some (.own false xs), none, x5, none, none, x8, x9] ∧ JarI (t + 500) j1 ∧ 0 ≤ k ∧ k ≤ 24 ∧ ∀ x ∈ xs, Sm x 500 5 := by
    have hl := r1.len
    match s1, hl with
    | [a0, a1, a2, a3, a4, a5, a6, a7, a8, a9], _ =>
      obtain ⟨jar1, e0, hj1⟩ := r1.at_ 0
      obtain ⟨d, e2, i, rfl, i1, i2⟩ := r1.at_ 1
      obtain ⟨xs, e3, hx⟩ := r1.at_ 3
      have e4 : a4 = none := r1.at_ 4
      have e6 : a6 = none := r1.at_ 6
      have e7 : a7 = none := r1.at_ 7
      have e0 : a0 = some (.own true jar1) := by simpa using e0
      have e2 : a1 = some (.val (.int i)) := by simpa using e2
      have e3 : a3 = some (.own false xs) := by simpa using e3
      subst e0 e2 e3 e4 e6 e7
      exact ⟨jar1, i, xs, a2, a5, a8, a9, rfl, hj1, i1, i2, fun x m => ⟨(hx.2.2 x m).1, (hx.2.2 x m).2.1, (hx.2.2 x m).2.2⟩⟩
  refine ⟨j1, ?_, hj1⟩
  have hrun : ex (phi Γ m) f__law_fm_weights_right.body [some (.own true jar), none, none, none, none, none, none, none, none, none] = ex (phi Γ m) wR [some (.own true j1), some (.val (.int k)), x2, some (.own false xs), none, x5, none, none, x8, x9] := by
    have := ex_split4 (phi Γ m) (match f__law_fm_weights_right.body with | .seq a _ => a | s => s) (match f__law_fm_weights_right.body with | .seq _ (.seq a _) => a | s => s) (match f__law_fm_weights_right.body with | .seq _ (.seq _ (.seq a _)) => a | s => s) (match f__law_fm_weights_right.body with | .seq _ (.seq _ (.seq _ (.seq a _))) => a | s => s) wR [some (.own true jar), none, none, none, none, none, none, none, none, none]
    refine this.trans ?_
    have e1' : ex (phi Γ m) (.seq (match f__law_fm_weights_right.body with | .seq a _ => a | s => s) (.seq (match f__law_fm_weights_right.body with | .seq _ (.seq a _) => a | s => s) (.seq (match f__law_fm_weights_right.body with | .seq _ (.seq _ (.seq a _)) => a | s => s) (.seq (match f__law_fm_weights_right.body with | .seq _ (.seq _ (.seq _ (.seq a _))) => a | s => s) .nil)))) [some (.own true jar), none, none, none, none, none, none, none, none, none] = _ := e1
    rw [e1']
    rfl
  obtain ⟨s', f1, a, b, c, rfl⟩ := forL_all (g := .nm 4) (b := ex (phi Γ m) (match wR with | .seq (.forr _ _ b) _ => b | s => s)) (fun s => ∃ a b c, s = [some (.own true j1), some (.val (.int k)), x2, some (.val (.list xs)), a, x5, b, c, x8, x9]) xs [some (.own true j1), some (.val (.int k)), x2, some (.val (.list xs)), none, x5, none, none, x8, x9] (fun d hd s hs => by
    obtain ⟨a, b, c, rfl⟩ := hs
    have hd := hx d hd
    have hok : Ok d := hd.ok (by omega)
    have g1 := r_wf (n := m) (k := k) (by omega) hok
    have g2 := r_mw (n := m) (k := .int k) (by omega) rfl hok
    have hin : inI (.int k) 0 24 = true := by
      unfold inI
      simp only [Bool.and_eq_true, decide_eq_true_eq]
      omega
    simp only [hin, if_true] at g2
    rcases wf_cases k d with h | ⟨i, h⟩
    · rw [h] at g1 g2
      have q1 := same_sm (n := m) (by omega) (sm_told hd) (by omega)
      simp only [isNone_none, if_true] at g2
      refine ⟨_, rfl, ?_⟩
      simp [wR, f__law_fm_weights_right, g1, g2, q1]
    · rw [h] at g1 g2
      have q1 := same_sm (n := m) (by omega) (sm_nm (c := 5) (Sm.int i)) (by omega)
      simp at g2
      have t1 : (phi Γ m).told 0 5 (.int i) = some (.tuple [.str (nmC 5), .int i]) := by rw [told_phi]; exact told_c 5 _ (by omega) (by omega)
      have n3 : nmC 5 = ("BadWeights" : Str) := rfl
      rw [n3] at q1 t1
      refine ⟨_, rfl, ?_⟩
      simp [wR, f__law_fm_weights_right, g1, g2, q1, toldO_err t1]) ⟨_, _, _, rfl⟩
  have hst : startA f__law_fm_weights_right.ns [.io jar] = [some (.own true jar), none, none, none, none, none, none, none, none, none] := rfl
  have hnp : [FArg.io jar].length = f__law_fm_weights_right.np := rfl
  unfold runF
  rw [if_pos hnp, hst, hrun]
  simp [wR, f__law_fm_weights_right] at f1
  simp [wR, f__law_fm_weights_right, f1, finR, iosOf]
end K01
set_option Elab.async false
set_option linter.all false
set_option maxRecDepth 100000
set_option maxHeartbeats 8000000
namespace K01
open PySem AM AM.AI
theorem bad6 {n : Nat} {k d : PyData} (hn : 5 < n) (hk : noD k = true) (h : Ok d) (hi : inI k 0 12 = false) : (phi Γ n).go 6 [.val k, .val d] = .err 1 k [] := by
  rw [r_made hn hk h]
  cases k <;> first | rfl | simp [hi]
theorem bad7 {n : Nat} {k d : PyData} (hn : 5 < n) (hk : noD k = true) (h : Ok d) (hi : inI k 0 12 = false) : (phi Γ n).go 7 [.val k, .val d] = .err 1 k [] := by
  rw [r_isr hn hk h]
  cases k <;> first | rfl | simp [hi]
theorem bad13 {n : Nat} {k d : PyData} (hn : 5 < n) (hk : noD k = true) (h : Ok d) (hi : inI k 0 24 = false) : (phi Γ n).go 13 [.val k, .val d] = .err 1 k [] := by
  rw [r_mw (by omega) hk h]
  cases k <;> first | rfl | simp [hi]
theorem r_first_right {n : Nat} {t : Int} {jar : List PyData} (hn : 19 ≤ n) (h6 : n ≤ 60) (ht : t ≤ TN n) (hj : JarI t jar) : ∃ jar', (phi Γ n).go 33 [.io jar] = .ret (.val (.bool true)) [jar'] ∧ JarI (t + 1) jar' := by
  obtain ⟨m, rfl⟩ : ∃ m, n = m + 1 := ⟨n - 1, by omega⟩
  rw [go_succ Γ m 33 _ (fd := f__law_fm_first_right) rfl]
  have hT0 : TN (m + 1) ≤ 90000000000000 := by unfold TN; omega
  obtain ⟨t0, hj'⟩ := hj.nat
  obtain ⟨x, j1, e1, a1, hj1⟩ := r_one (n := m) (ths := [.none, .tuple [], .tuple [.int 1, .int 1], .tuple [.int 0, .int 0], .list [.int 1]]) (by omega) hj' (by omega) (by simp) (by simp)
  have hx : Sm x 3 1 := by
    simp only [List.mem_cons, List.not_mem_nil, or_false] at a1
    rcases a1 with rfl | rfl | rfl | rfl | rfl <;> exact ⟨by decide +kernel, by decide +kernel, by decide +kernel⟩
  have hok : Ok x := hx.ok (by omega)
  have c1 := fun s => callA_j1 (phi Γ m) 16 s (b := true) (hb16 m) e1
  refine ⟨j1, ?_, (jarInt hj1).mono (by omega)⟩
  have t1 : ∀ w, (phi Γ m).told 0 1 w = some (.tuple [.str (nmC 1), w]) := fun w => by rw [told_phi]; exact told_c 1 _ (by omega) (by omega)
  have n1 : nmC 1 = ("BadMany" : Str) := rfl
  have p1 : binD .pow (.int 10) (.int 20) = some (.val (.int (10 ^ 20))) := rfl
  have bmul : ∀ w, binD .mul (.tuple [w]) (.int 2) = some (.val (.tuple [w, w])) := fun w => by
    have : fits 2 = true := fits_2
    simp [binD, this]
  obtain ⟨s', f1, a, b, rfl⟩ := forL_all (g := .nm 2) (b := ex (phi Γ m) (match f__law_fm_first_right.body with | .seq _ (.seq (.forr _ _ b) _) => b | s => s)) (fun s => ∃ a b, s = [some (.own true j1), some (.val x), a, b]) [.int (-1), .int 13, .none, .bool true, .str "1", .tuple [.int 1], .int (-(10 ^ 20))] [some (.own true j1), some (.val x), none, none] (fun d hd s hs => by
    obtain ⟨a, b, rfl⟩ := hs
    have hd2 : Sm d 2 1 ∧ noD d = true ∧ inI d 0 12 = false := by
      simp only [List.mem_cons, List.not_mem_nil, or_false] at hd
      rcases hd with rfl | rfl | rfl | rfl | rfl | rfl | rfl <;> exact ⟨⟨by decide +kernel, by decide +kernel, by decide +kernel⟩, by decide +kernel, by decide +kernel⟩
    obtain ⟨d1, d2, d3⟩ := hd2
    have g1 := bad6 (n := m) (by omega) d2 hok d3
    have g2 := bad7 (n := m) (by omega) d2 hok d3
    have w1 := sm_nm (c := 1) d1
    have q1 := same_sm (n := m) (by omega) (Sm.two w1 w1) (by omega)
    have t2 := t1 d
    rw [n1] at q1 t2
    refine ⟨_, rfl, ?_⟩
    simp [f__law_fm_first_right, g1, g2, q1, toldO_err t2, bmul, methM, mOk, sz_lt]) ⟨_, _, rfl⟩
  obtain ⟨s', f2, a', b', rfl⟩ := forL_all (g := .nm 2) (b := ex (phi Γ m) (match f__law_fm_first_right.body with | .seq _ (.seq _ (.seq (.forr _ _ b) _)) => b | s => s)) (fun s => ∃ a b, s = [some (.own true j1), some (.val x), a, b]) [.int (-1), .int 25, .none, .bool false, .str "0", .tuple []] [some (.own true j1), some (.val x), a, b] (fun d hd s hs => by
    obtain ⟨a, b, rfl⟩ := hs
    have hd2 : Sm d 2 1 ∧ noD d = true ∧ inI d 0 24 = false := by
      simp only [List.mem_cons, List.not_mem_nil, or_false] at hd
      rcases hd with rfl | rfl | rfl | rfl | rfl | rfl <;> exact ⟨⟨by decide +kernel, by decide +kernel, by decide +kernel⟩, by decide +kernel, by decide +kernel⟩
    obtain ⟨d1, d2, d3⟩ := hd2
    have g1 := bad13 (n := m) (by omega) d2 hok d3
    have w1 := sm_nm (c := 1) d1
    have q1 := same_sm (n := m) (by omega) w1 (by omega)
    have t2 := t1 d
    rw [n1] at q1 t2
    refine ⟨_, rfl, ?_⟩
    simp [f__law_fm_first_right, g1, q1, toldO_err t2]) ⟨_, _, rfl⟩
  simp [f__law_fm_first_right] at f1 f2
  (try simp at c1)
  simp at p1
  simp [runF, f__law_fm_first_right, startA, fargS, c1, rvA, p1, f1, f2, finR, iosOf]
/-! #### bounds -/
theorem rule_rf {k : Nat} {d : PyData} (h : RuleD k d) : rf k d = .none := by
  obtain ⟨xs, rfl, h1, _, z, hz, hz0⟩ := h
  have hl : ((xs.map PyData.int).length : Int) = (k : Int) + 1 := by rw [List.length_map]; omega
  have hf : ∀ (ys : List Int) (i : Nat), fi nonI i (ys.map PyData.int) = .none := by
    intro ys
    induction ys with
    | nil => intro i; rfl
    | cons y ys ih => intro i; simp only [List.map_cons, fi, nonI, isInt]; exact ih _
  refine rf_n hl (hf xs 0) ?_
  rw [← List.map_tail, List.all_eq_false]
  exact ⟨.int z, List.mem_map.mpr ⟨z, hz, rfl⟩, by simpa [isZ] using hz0⟩
theorem fi_no {q : PyData → Bool} : ∀ {xs : List PyData} {i : Nat}, (∀ x ∈ xs, q x = false) → fi q i xs = .none
  | [], _, _ => rfl
  | x :: xs, i, h => by
    unfold fi
    rw [h x (List.mem_cons_self ..)]
    exact fi_no fun y m => h y (List.mem_cons_of_mem _ m)
theorem sm_rule {k : Nat} {d : PyData} (h : RuleD k d) : Sm d (k + 2) 1 := ⟨O1_ok.lay k d h, O1_ok.ws k d h, O1_ok.wd k d h⟩
theorem sms_all {s p : Nat} : ∀ {xs : List PyData}, (∀ x ∈ xs, Sm x s p) → Sms xs (xs.length * s) p
  | [], _ => ⟨rfl, by simp [szs], by simp [PyData.depthAll]⟩
  | x :: xs, h => by
    have h1 := h x (List.mem_cons_self ..)
    have h2 := sms_all fun y m => h y (List.mem_cons_of_mem _ m)
    have := Sms.cons h1 h2
    exact ⟨this.lay, by have := this.sz; rw [List.length_cons, Nat.add_mul, Nat.one_mul]; omega, by have := this.dp; omega⟩
def bb1 : S := (match f__law_fm_bounds_right.body with | .seq a _ => .seq a .nil | s => s)
def bbR : S := (match f__law_fm_bounds_right.body with | .seq a r => r | s => s)
def bb0 : AE := [.jar true 0, .no, .no, .no, .no]
def bbT : AE := [.jar true 5000, .val (.tup (.rep (.op 12) 24 24)), .no, .no, .no]
theorem bb_chk : chkNx C5 bb1 bb0 bbT = true := by decide +kernel
theorem r_bounds_right {n : Nat} {t : Int} {jar : List PyData} (hn : 19 ≤ n) (h6 : n ≤ 60) (ht : t ≤ TN n) (hj : JarI t jar) : ∃ jar', (phi Γ n).go 34 [.io jar] = .ret (.val (.bool true)) [jar'] ∧ JarI (t + 5000) jar' := by
  obtain ⟨m, rfl⟩ : ∃ m, n = m + 1 := ⟨n - 1, by omega⟩
  rw [go_succ Γ m 34 _ (fd := f__law_fm_bounds_right) rfl]
  have hT := TN_succ m
  have hK : KMI = 1000000000000 := rfl
  have r0 : rel RuleD ⟨t, fun _ => []⟩ bb0 [some (.own true jar), none, none, none, none] := by
    refine ⟨rfl, fun i => ?_⟩
    match i with
    | 0 => exact ⟨jar, rfl, hj.mono (by simp)⟩
    | 1 => rfl
    | 2 => rfl
    | 3 => rfl
    | 4 => rfl
    | j + 5 => exact rfl
  obtain ⟨s1, e1, r1⟩ := nx_of (C5_ok m (by omega) (by omega)) (by show t + KMI ≤ TN m; omega) r0 bb_chk
  obtain ⟨j1, xs, rfl, hj1, hl, hx⟩ : ∃ j1 xs, s1 = [some (.own true j1), some (.val (.tuple xs)), none, none, none] ∧ JarI (t + 5000) j1 ∧ xs.length = 24 ∧ ∀ x ∈ xs, RuleD 12 x := by
    have hl := r1.len
    match s1, hl with
    | [a0, a1, a2, a3, a4], _ =>
      obtain ⟨jar1, e0, hj1⟩ := r1.at_ 0
      obtain ⟨d, e1, xs, rfl, x1, x2, x3⟩ := r1.at_ 1
      have e2 : a2 = none := r1.at_ 2
      have e3 : a3 = none := r1.at_ 3
      have e4 : a4 = none := r1.at_ 4
      have e0 : a0 = some (.own true jar1) := by simpa using e0
      have e1 : a1 = some (.val (.tuple xs)) := by simpa using e1
      subst e0 e1 e2 e3 e4
      exact ⟨jar1, xs, rfl, hj1, by omega, x3⟩
  refine ⟨j1, ?_, hj1⟩
  have hrun : ex (phi Γ m) f__law_fm_bounds_right.body [some (.own true jar), none, none, none, none] = ex (phi Γ m) bbR [some (.own true j1), some (.val (.tuple xs)), none, none, none] := by
    have := ex_split1 (phi Γ m) (match f__law_fm_bounds_right.body with | .seq a _ => a | s => s) bbR [some (.own true jar), none, none, none, none]
    refine this.trans ?_
    have e1' : ex (phi Γ m) (.seq (match f__law_fm_bounds_right.body with | .seq a _ => a | s => s) .nil) [some (.own true jar), none, none, none, none] = _ := e1
    rw [e1']
    rfl
  -- the things
  have smx : Sm (.tuple xs) 500 2 := by
    have := Sm.tup (sms_all fun x mm => sm_rule (hx x mm))
    exact this.mono (by rw [hl]; omega) (by omega)
  have i12 : inI (.int 12) 0 12 = true := by decide
  have smA : Sm (.tuple [.int 12, .tuple xs]) 502 3 := (Sm.two (Sm.int 12) smx).mono (by omega) (by omega)
  have bkA : bkF (.tuple [.int 12, .tuple xs]) = none := by
    have h1 : fi (noR 12) 0 xs = .none := fi_no fun x mm => by
      have := rule_rf (hx x mm)
      have e : ((12 : Nat) : Int) = 12 := rfl
      rw [e] at this
      simp [noR, this]
    have h2 : ¬ 24 < xs.length := by omega
    simp [bkF, wo, i12, h1, h2]
  have smB : Sms (xs ++ xs.take 1) 1000 1 := by
    have a1 := sms_all fun x mm => sm_rule (hx x mm)
    have a2 := sms_all (xs := xs.take 1) fun x mm => sm_rule (hx x (List.mem_of_mem_take mm))
    have := a1.app a2
    exact ⟨this.lay, by have := this.sz; rw [List.length_take] at this; omega, by have := this.dp; omega⟩
  have hlB : (xs ++ xs.take 1).length = 25 := by rw [List.length_append, List.length_take]; omega
  have bkB : bkF (.tuple [.int 12, .tuple (xs ++ xs.take 1)]) = some (2, .int 25) := by
    simp [bkF, wo, i12, hlB]
  have bkC : bkF (.tuple [.int 12, .tuple (List.replicate 25 .none)]) = some (2, .int 25) := by
    simp [bkF, wo, i12]
  have okA := (Sm.two (Sm.int 12) smx).ok (by omega)
  have okB := (Sm.two (Sm.int 12) (Sm.tup smB)).ok (by omega)
  have okC : Ok (.tuple [.int 12, .tuple (List.replicate 25 .none)]) := ⟨by decide +kernel, by decide +kernel⟩
  have okD : Ok (.tuple [.int 0, .tuple []]) := ⟨by decide +kernel, by decide +kernel⟩
  have bkD0 : bkF (.tuple [.int 0, .tuple []]) = none := by decide +kernel
  have okE : Ok (.tuple (List.replicate 12 (.int 0) ++ [.int (-1)])) := ⟨by decide +kernel, by decide +kernel⟩
  have okF : Ok (.tuple (List.replicate 24 (.int 0))) := ⟨by decide +kernel, by decide +kernel⟩
  have g1 := r_mb (n := m) (by omega) okA
  have g2 := r_mb (n := m) (by omega) okB
  have g3 := r_mb (n := m) (by omega) okC
  have g4 := r_isb (n := m) (by omega) okC
  have g5 := r_mb (n := m) (by omega) okD
  have g6 := r_made (n := m) (k := .int 12) (by omega) rfl okE
  have g7 := r_mw (n := m) (k := .int 24) (by omega) rfl okF
  rw [bkA] at g1
  rw [bkB] at g2
  rw [bkC] at g3 g4
  rw [bkD0] at g5
  have r6 : rf 12 (.tuple (List.replicate 12 (.int 0) ++ [.int (-1)])) = .none := isNone_of (by decide +kernel)
  have r7 : wf 24 (.tuple (List.replicate 24 (.int 0))) = .none := isNone_of (by decide +kernel)
  have i24 : inI (.int 24) 0 24 = true := by decide
  simp only [i12, r6, if_true, isNone_none] at g6
  simp only [i24, r7, if_true, isNone_none] at g7
  have t2 : (phi Γ m).told 0 2 (.int 25) = some (.tuple [.str (nmC 2), .int 25]) := by rw [told_phi]; exact told_c 2 _ (by omega) (by omega)
  have n2 : nmC 2 = ("TooMany" : Str) := rfl
  rw [n2] at t2
  have b1 : binD .add (.tuple xs) (.tuple (xs.take 1)) = some (.val (.tuple (xs ++ xs.take 1))) := by
    simp only [binD]
    rw [if_pos (fits_of (by rw [List.length_take]; omega))]
  have q1 : cutD xs none (some 1) = xs.take 1 := cut_take (k := 1)
  have rep : ∀ (w : PyData) (k : Nat), k ≤ 1000 → binD .mul (.tuple [w]) (.int k) = some (.val (.tuple (List.replicate k w))) := fun w k hk => by
    have f : fits ([w].length * ((k : Int)).toNat) = true := fits_of (by simp; omega)
    have d1 : decide ((k : Int) < 2 ^ 63) = true := decide_eq_true (by omega)
    have d2 : decide (-(2 ^ 63) ≤ (k : Int)) = true := decide_eq_true (by omega)
    simp only [binD, f, d1, d2]
    have : (List.replicate (k : Int).toNat [w]).flatten = List.replicate k w := by
      rw [Int.toNat_natCast]
      clear f d1 d2 hk
      induction k with
      | zero => rfl
      | succ k ih => rw [List.replicate_succ, List.flatten_cons, ih]; rfl
    rw [this]
    rfl
  have rA := rep .none 25 (by omega)
  have rB := rep (.int 0) 12 (by omega)
  have rC := rep (.int 0) 24 (by omega)
  have b2 : binD .add (.tuple (List.replicate 12 (.int 0))) (.tuple [.int (-1)]) = some (.val (.tuple (List.replicate 12 (.int 0) ++ [.int (-1)]))) := by
    simp only [binD]
    rw [if_pos (fits_of (by simp))]
  generalize hE : List.replicate 12 (PyData.int 0) ++ [.int (-1)] = E at *
  generalize hB : xs ++ xs.take 1 = B at *
  generalize hC : List.replicate 25 PyData.none = Cc at *
  generalize hZ : List.replicate 12 (PyData.int 0) = Z at *
  generalize hF : List.replicate 24 (PyData.int 0) = F at *
  have smE : Sm (.tuple E) 20 2 := by subst hE; subst hZ; exact ⟨by decide +kernel, by decide +kernel, by decide +kernel⟩
  have smF : Sm (.tuple F) 30 2 := by subst hF; exact ⟨by decide +kernel, by decide +kernel, by decide +kernel⟩
  have b3 : ∀ a b c d e f g : PyData, binD .add (.tuple [a, b, c, d, e]) (.tuple [f, g]) = some (.val (.tuple [a, b, c, d, e, f, g])) := fun a b c d e f g => by
    simp only [binD]
    rw [if_pos (fits_of (by simp))]
    rfl
  have tm : Sm (.tuple [.str "TooMany", .int 25]) 5 3 := (sm_nm (c := 2) (Sm.int 25)).mono (by omega) (by omega)
  have qq := same_sm (n := m) (x := .tuple [.tuple [.str "told", .tuple [.int 12, .tuple xs]], .tuple [.str "TooMany", .int 25], .tuple [.str "TooMany", .int 25], .tuple [.str "told", .bool false], .tuple [.str "told", .tuple [.int 0, .tuple []]], .tuple [.str "told", .tuple E], .tuple [.str "told", .tuple F]]) (by omega) (Sm.tup (Sms.cons (sm_told smA) (Sms.cons tm (Sms.cons tm (Sms.cons (sm_told (Sm.bool false)) (Sms.cons (sm_told (s := 3) (p := 2) ⟨by decide +kernel, by decide +kernel, by decide +kernel⟩) (Sms.cons (sm_told smE) (Sms.one (sm_told smF))))))))) (by omega)
  have hst : startA f__law_fm_bounds_right.ns [.io jar] = [some (.own true jar), none, none, none, none] := rfl
  have hnp : [FArg.io jar].length = f__law_fm_bounds_right.np := rfl
  unfold runF
  rw [if_pos hnp, hst, hrun]
  simp at rA rB rC
  simp [frO] at g1 g2 g3 g4 g5
  simp [bbR, f__law_fm_bounds_right, g1, g2, g3, g4, g5, g6, g7, toldO_err t2, q1, b1, b2, b3, rA, rB, rC, methM, mOk, sz_lt, qq, finR, iosOf]
end K01
set_option Elab.async false
set_option linter.all false
set_option maxRecDepth 100000
set_option maxHeartbeats 8000000
namespace AM
open PySem
theorem callA_b1 (Φ : Calls) (f : Nat) (s : AS) {o : Option SV} {v : RV} {ys xs : List PyData} {b : Bool} (hb : (Φ.by_ f).headD false = true) (h : Φ.go f [.io xs] = .ret v [ys]) : callA Φ f [.bor 1] (o :: some (.own b xs) :: s) = .ok (rvA v) (o :: some (.own b ys) :: s) := by
  unfold callA
  have : prep [.bor 1] (Φ.by_ f) (o :: some (.own b xs) :: s) = some ([.io xs], [1], o :: some (.own b xs) :: s) := by
    unfold prep
    rw [hb]
    simp [prep]
  rw [this]
  dsimp only
  rw [h]
  simp [putIos, setOwn]
theorem forL_invB {g : AM.G} {b : AS → SO} {N : Nat} (I : Nat → AS → Prop) :
    ∀ (ds : List PyData) (k : Nat) (s : AS), k + ds.length ≤ N → (∀ d ∈ ds, ∀ k s, k < N → I k s → ∃ s1, bindG g d s = some s1 ∧ nxP (I (k + 1)) (b s1)) → I k s → ∃ s', forL g b ds s = .nx s' ∧ I (k + ds.length) s'
  | [], k, s, _, _, hi => ⟨s, rfl, hi⟩
  | d :: ds, k, s, hN, h, hi => by
    simp only [List.length_cons] at hN
    obtain ⟨s1, h1, h2⟩ := h d (List.mem_cons_self ..) k s (by omega) hi
    generalize hb : b s1 = o at *
    cases o with
    | nx s2 =>
      obtain ⟨s', g1, g2⟩ := forL_invB I ds (k + 1) s2 (by omega) (fun d m => h d (List.mem_cons_of_mem _ m)) h2
      refine ⟨s', ?_, ?_⟩
      · unfold forL
        rw [h1]
        dsimp only
        rw [hb]
        exact g1
      · have : k + (d :: ds).length = k + 1 + ds.length := by simp only [List.length_cons]; omega
        rw [this]
        exact g2
    | _ => exact h2.elim
end AM
namespace K01
open PySem AM AM.AI
theorem r_pool {n : Nat} {ns : List Int} (hn : 0 < n) (hl : ns.length ≤ 63) : ∃ jar, (phi Γ n).go 14 [.val (.dict [(.list (ns.map PyData.int), .none)])] = .ret (.new jar) [] ∧ JarI 0 jar := by
  obtain ⟨m, rfl⟩ : ∃ m, n = m + 1 := ⟨n - 1, by omega⟩
  rw [go_succ Γ m 14 _ (fd := f__law_pool) rfl]
  have p1 : binD .pow (.int 10) (.int 12) = some (.val (.int (10 ^ 12))) := rfl
  have p2 : binD .pow (.int 10) (.int 60) = some (.val (.int (10 ^ 60))) := rfl
  have d1 : ∀ x : Int, binD .mod (.int x) (.int 2147483629) = some (.val (.int (x % 2147483629))) := fun x => rfl
  have d2 : ∀ x : Int, binD .mod (.int x) (.int 2147483647) = some (.val (.int (x % 2147483647))) := fun x => rfl
  have d3 : ∀ x : Int, binD .mod (.int x) (.int (10 ^ 60)) = some (.val (.int (x % 10 ^ 60))) := fun x => by
    simp only [binD]
    rw [if_pos (by decide)]
  simp at p1 p2 d3
  have hlen : bltD .len [.dict [(.list (ns.map PyData.int), .none)]] = some (.val (.int ns.length)) := by simp [bltD]
  have hr : rngOk (ns.length : Int) = true := rng_len (by omega)
  obtain ⟨s', f1, a, b, dg, st, rfl, g0, g1, s0, s1⟩ := forL_all (g := .nm 1) (b := ex (phi Γ m) (match f__law_pool.body with | .seq _ (.seq (.forr _ _ b) _) => b | s => s)) (fun s => ∃ a b, ∃ dg st : Int, s = [some (.val (.dict [(.list (ns.map PyData.int), .none)])), a, some (.val (.int dg)), some (.val (.int st)), b] ∧ 0 ≤ dg ∧ dg < 10 ^ 120 ∧ 0 ≤ st ∧ st < 2147483647) (rangeD 0 (ns.length : Int)) [some (.val (.dict [(.list (ns.map PyData.int), .none)])), none, some (.val (.int 0)), some (.val (.int 7)), none] (fun d hd s hs => by
    obtain ⟨a, b, dg, st, rfl, g0, g1, s0, s1⟩ := hs
    rw [rangeD_eq] at hd
    obtain ⟨i, hi, rfl⟩ := List.mem_map.mp hd
    have hi : i < ns.length := by simpa using hi
    have hix : L2.atI (ns.map PyData.int) (i : Int) = some (.int ns[i]) := by
      rw [atI_of (by rw [List.length_map]; exact hi)]
      simp
    have hix2 : ixD (.dict [(.list (ns.map PyData.int), .none)]) (.int i) = some (.int ns[i]) := hix
    generalize ns[i] = z at *
    generalize hc : (if -1 - z > z then -1 - z else z) = c at *
    have hc2 : (if z < -1 - z then -1 - z else z) = c := hc
    have m1 : binD .mul (.int st) (.int 48271) = some (.val (.int (st * 48271))) := by
      simp only [binD]
      rw [if_pos (mul_s (by omega) (by decide))]
    refine ⟨_, rfl, ?_⟩
    by_cases h1 : (10 ^ 12 : Int) ≤ c
    · by_cases h2 : dg < (10 ^ 60 : Int)
      · have m2 : binD .mul (.int dg) (.int (10 ^ 60)) = some (.val (.int (dg * 10 ^ 60))) := by
          simp only [binD]
          rw [if_pos (mul_ok (by omega) (by decide))]
        simp at h1 h2 m2
        simp [f__law_pool, hix2, hc2, m1, d1, d2, p1, p2, d3, h1, h2, m2]
        exact ⟨_, _, _, _, ⟨rfl, rfl, rfl, rfl⟩, by omega, by omega, by omega, by omega⟩
      · simp at h1 h2
        simp [f__law_pool, hix2, hc2, m1, d1, d2, p1, p2, d3, h1, Int.not_lt.mpr h2]
        exact ⟨_, _, _, _, ⟨rfl, rfl, rfl, rfl⟩, by omega, by omega, by omega, by omega⟩
    · simp at h1
      simp [f__law_pool, hix2, hc2, m1, d1, d2, p1, p2, d3, Int.not_le.mpr h1]
      exact ⟨_, _, _, _, ⟨rfl, rfl, rfl, rfl⟩, by omega, by omega, by omega, by omega⟩) ⟨_, _, 0, 7, rfl, by omega, by omega, by omega, by omega⟩
  refine ⟨[.int dg, .int st, .int 0], ?_, dg, st, 0, rfl, s0, s1, by omega, by omega⟩
  simp [f__law_pool] at f1
  simp [runF, f__law_pool, startA, fargS, hlen, hr, f1, finR, iosOf]
theorem r_law {n : Nat} {ns : List Int} (hn : 20 ≤ n) (h6 : n ≤ 40) (hl : ns.length ≤ 63) : (phi Γ n).go 35 [.val (.dict [(.list (ns.map PyData.int), .none)])] = .ret (.val (.bool true)) [] := by
  obtain ⟨m, rfl⟩ : ∃ m, n = m + 1 := ⟨n - 1, by omega⟩
  rw [go_succ Γ m 35 _ (fd := f_law) rfl]
  have hT : (40000000000000 : Int) ≤ TN m := by unfold TN; omega
  obtain ⟨jar, e0, hj⟩ := r_pool (n := m) (ns := ns) (by omega) hl
  have hr : rngOk (5 : Int) = true := by decide
  generalize (PyData.dict [(.list (ns.map PyData.int), .none)]) = sc at *
  obtain ⟨s', f1, jar', a, rfl, hj'⟩ := forL_invB (N := 5) (g := .nm 2) (b := ex (phi Γ m) (match f_law.body with | .seq _ (.seq (.forr _ _ b) _) => b | s => s)) (fun k s => ∃ jar a, s = [some (.val sc), some (.own false jar), a] ∧ JarI ((k : Int) * 6000) jar) (rangeD 0 5) 0 [some (.val sc), some (.own false jar), none] (by decide) (fun d hd k s hk hs => by
    obtain ⟨jar, a, rfl, hj⟩ := hs
    obtain ⟨j1, e1, hj1⟩ := r_rules_right (n := m) (by omega) (by omega) (by omega) hj
    obtain ⟨j2, e2, hj2⟩ := r_books_right (n := m) (by omega) (by omega) (by omega) hj1
    obtain ⟨j3, e3, hj3⟩ := r_weights_right (n := m) (by omega) (by omega) (by omega) hj2
    have c1 := fun o s => callA_b1 (phi Γ m) 29 s (o := o) (b := false) (by rw [by_phi]; rfl) e1
    have c2 := fun o s => callA_b1 (phi Γ m) 31 s (o := o) (b := false) (by rw [by_phi]; rfl) e2
    have c3 := fun o s => callA_b1 (phi Γ m) 32 s (o := o) (b := false) (by rw [by_phi]; rfl) e3
    refine ⟨_, rfl, ?_⟩
    simp [f_law, c1, c2, c3, rvA]
    exact hj3.mono (by omega)) ⟨jar, none, rfl, by simpa using hj⟩
  obtain ⟨j1, e1, hj1⟩ := r_first_right (n := m) (by omega) (by omega) (by show ((0 + (rangeD 0 5).length : Nat) : Int) * 6000 ≤ TN m; have : (rangeD 0 5).length = 5 := rfl; omega) hj'
  obtain ⟨j2, e2, hj2⟩ := r_bounds_right (n := m) (by omega) (by omega) (by show ((0 + (rangeD 0 5).length : Nat) : Int) * 6000 + 1 ≤ TN m; have : (rangeD 0 5).length = 5 := rfl; omega) hj1
  have c1 := fun o s => callA_b1 (phi Γ m) 33 s (o := o) (b := false) (by rw [by_phi]; rfl) e1
  have c2 := fun o s => callA_b1 (phi Γ m) 34 s (o := o) (b := false) (by rw [by_phi]; rfl) e2
  simp [f_law] at f1
  simp [runF, f_law, startA, fargS, e0, rvA, hr, f1, c1, c2, finR, iosOf]
theorem plain : ∀ ns : List Int, ns.length ≤ 63 → (∀ z ∈ ns, Builtin.Int.intBits z ≤ 1048576) → (phi L.Γ 40).go 35 [.val (.dict [(.list (ns.map PyData.int), .none)])] = .ret (.val (.bool true)) [] := fun ns hl _ => r_law (n := 40) (by omega) (by omega) hl
end K01
set_option Elab.async false
set_option linter.all false
set_option maxRecDepth 100000
set_option maxHeartbeats 0
namespace K01
open PySem AM
abbrev NN : Nat := 40
end K01
namespace K01
open PySem PySem.Spec PyProof.Rows L2 AM
theorem b_is_number : d_is_number.bnd top := fun _ _ _ _ _ _ us hl => match us, hl with | [_], _ => by kernel_rfl
theorem b_whole : d_whole.bnd top := fun _ _ _ _ _ _ us hl => match us, hl with | [_, _, _], _ => by kernel_rfl
theorem b_asked_many : d_asked_many.bnd top := fun _ _ _ _ _ _ us hl => match us, hl with | [_, _, _], _ => by kernel_rfl
theorem b_first_odd : d_first_odd.bnd top := fun _ _ _ _ _ _ us hl => match us, hl with | [_], _ => by kernel_rfl
theorem b_wrong_rule : d_wrong_rule.bnd top := fun _ _ _ _ _ _ us hl => match us, hl with | [_, _], _ => by kernel_rfl
theorem b_asked_rule : d_asked_rule.bnd top := fun _ _ _ _ _ _ us hl => match us, hl with | [_, _], _ => by kernel_rfl
theorem b_made_rule : d_made_rule.bnd top := fun _ _ _ _ _ _ us hl => match us, hl with | [_, _], _ => by kernel_rfl
theorem b_is_rule : d_is_rule.bnd top := fun _ _ _ _ _ _ us hl => match us, hl with | [_, _], _ => by kernel_rfl
theorem b_wrong_outside : d_wrong_outside.bnd top := fun _ _ _ _ _ _ us hl => match us, hl with | [_], _ => by kernel_rfl
theorem b_first_no_rule : d_first_no_rule.bnd top := fun _ _ _ _ _ _ us hl => match us, hl with | [_, _], _ => by kernel_rfl
theorem b_made_book : d_made_book.bnd top := fun _ _ _ _ _ _ us hl => match us, hl with | [_], _ => by kernel_rfl
theorem b_is_book : d_is_book.bnd top := fun _ _ _ _ _ _ us hl => match us, hl with | [_], _ => by kernel_rfl
theorem b_is_weight : d_is_weight.bnd top := fun _ _ _ _ _ _ us hl => match us, hl with | [_], _ => by kernel_rfl
theorem b_made_weights : d_made_weights.bnd top := fun _ _ _ _ _ _ us hl => match us, hl with | [_, _], _ => by kernel_rfl
theorem b__law_pool : d__law_pool.bnd top := fun _ _ _ _ _ _ us hl => match us, hl with | [_], _ => by kernel_rfl
theorem b__law_take : d__law_take.bnd top := fun _ _ _ _ _ _ us hl => match us, hl with | [_, _], _ => by kernel_rfl
theorem b__law_one : d__law_one.bnd top := fun _ _ _ _ _ _ us hl => match us, hl with | [_, _], _ => by kernel_rfl
theorem b__law_km_is_whole : d__law_km_is_whole.bnd top := fun _ _ _ _ _ _ us hl => match us, hl with | [_], _ => by kernel_rfl
theorem b__law_km_is_in : d__law_km_is_in.bnd top := fun _ _ _ _ _ _ us hl => match us, hl with | [_, _, _], _ => by kernel_rfl
theorem b__law_km_same : d__law_km_same.bnd top := fun _ _ _ _ _ _ us hl => match us, hl with | [_, _], _ => by kernel_rfl
theorem b__law_km_rule_fault : d__law_km_rule_fault.bnd top := fun _ _ _ _ _ _ us hl => match us, hl with | [_, _], _ => by kernel_rfl
theorem b__law_km_book_fault : d__law_km_book_fault.bnd top := fun _ _ _ _ _ _ us hl => match us, hl with | [_], _ => by kernel_rfl
theorem b__law_km_weights_fault : d__law_km_weights_fault.bnd top := fun _ _ _ _ _ _ us hl => match us, hl with | [_, _], _ => by kernel_rfl
theorem b__law_km_number : d__law_km_number.bnd top := fun _ _ _ _ _ _ us hl => match us, hl with | [_], _ => by kernel_rfl
theorem b__law_km_rule : d__law_km_rule.bnd top := fun _ _ _ _ _ _ us hl => match us, hl with | [_, _], _ => by kernel_rfl
theorem b__law_km_entries : d__law_km_entries.bnd top := fun _ _ _ _ _ _ us hl => match us, hl with | [_, _], _ => by kernel_rfl
theorem b__law_km_book : d__law_km_book.bnd top := fun _ _ _ _ _ _ us hl => match us, hl with | [_], _ => by kernel_rfl
theorem b__law_km_bent : d__law_km_bent.bnd top := fun _ _ _ _ _ _ us hl => match us, hl with | [_, _], _ => by kernel_rfl
theorem b__law_fm_wrong_rules : d__law_fm_wrong_rules.bnd top := fun _ _ _ _ _ _ us hl => match us, hl with | [_, _, _], _ => by kernel_rfl
theorem b__law_fm_rules_right : d__law_fm_rules_right.bnd top := fun _ _ _ _ _ _ us hl => match us, hl with | [_], _ => by kernel_rfl
theorem b__law_fm_wrong_books : d__law_fm_wrong_books.bnd top := fun _ _ _ _ _ _ us hl => match us, hl with | [_, _], _ => by kernel_rfl
theorem b__law_fm_books_right : d__law_fm_books_right.bnd top := fun _ _ _ _ _ _ us hl => match us, hl with | [_], _ => by kernel_rfl
theorem b__law_fm_weights_right : d__law_fm_weights_right.bnd top := fun _ _ _ _ _ _ us hl => match us, hl with | [_], _ => by kernel_rfl
theorem b__law_fm_first_right : d__law_fm_first_right.bnd top := fun _ _ _ _ _ _ us hl => match us, hl with | [_], _ => by kernel_rfl
theorem b__law_fm_bounds_right : d__law_fm_bounds_right.bnd top := fun _ _ _ _ _ _ us hl => match us, hl with | [_], _ => by kernel_rfl
theorem b_law : d_law.bnd top := fun _ _ _ _ _ _ us hl => match us, hl with | [_], _ => by kernel_rfl
theorem bnds : ∀ d ∈ dds, d.bnd top := by
  unfold dds
  simp only [List.mem_cons, List.not_mem_nil, or_false, forall_eq_or_imp, forall_eq]
  exact ⟨b_is_number, b_whole, b_asked_many, b_first_odd, b_wrong_rule, b_asked_rule, b_made_rule, b_is_rule, b_wrong_outside, b_first_no_rule, b_made_book, b_is_book, b_is_weight, b_made_weights, b__law_pool, b__law_take, b__law_one, b__law_km_is_whole, b__law_km_is_in, b__law_km_same, b__law_km_rule_fault, b__law_km_book_fault, b__law_km_weights_fault, b__law_km_number, b__law_km_rule, b__law_km_entries, b__law_km_book, b__law_km_bent, b__law_fm_wrong_rules, b__law_fm_rules_right, b__law_fm_wrong_books, b__law_fm_books_right, b__law_fm_weights_right, b__law_fm_first_right, b__law_fm_bounds_right, b_law⟩
theorem okb : L.okB = true := by kernel_rfl
def stInit : Stmt := match top 1 with
  | .ClassDef _ _ _ b _ _ _ _ _ _ _ => b.getD 0 (.Pass ⟨0, 0, 0, 0⟩)
  | s => s
def dInit : He.DefD := ⟨("Refused", some "__init__"), "__init__", "Refused.__init__", defArgs stInit, defBody stInit, defScope stInit, [], []⟩
def dHeard : He.DefD := ⟨("_law_fm_heard", none), "_law_fm_heard", "_law_fm_heard", defArgs (top 40), defBody (top 40), defScope (top 40), [], []⟩
theorem hdis : hd.is tb (top 40) = true := by kernel_rfl
abbrev R : PySem.W.OpenRow := PySem.W.OpenLaw.row PySem.Challenge.rw_keptalone_k01_rules_books_and_weights_by
def fa : List He.Fa := tb.fnm.map .glo ++ (tb.cnm.map .glo ++ (tb.bl.map .free ++ (tb.nums.map (fun p => .int p.1 p.2) ++ (tb.hrd.map .glo ++ [.free "ValueError"]))))
def fnl : List He.DefD := dds.map (Dd.fn top) ++ [dInit, dHeard]
def dfn : List He.Defn := tfs.map fun x => (x, none)
abbrev hk : PySem.W.Hook := He.hookX 4 fa fnl [] dfn (exB tb.cnm subT dfn)
def ob (s : PySem.W.SharedT) : He.AlX := He.obsX 4 fa fnl [] dfn (exB tb.cnm subT dfn) (HandSHeadRun.getT s)
theorem ob_eq (s : PySem.W.SharedT) : ob s = hk.obs s.abs := He.obsX_eq (HandSHeadRun.getT_eq s)
def loose : List Str := [PySem.Str.ofString "Refused", PySem.Str.ofString "BadMany", PySem.Str.ofString "TooMany", PySem.Str.ofString "BadRule", PySem.Str.ofString "BadBook", PySem.Str.ofString "BadWeights", PySem.Str.ofString "is_number", PySem.Str.ofString "whole", PySem.Str.ofString "asked_many", PySem.Str.ofString "first_odd", PySem.Str.ofString "wrong_rule", PySem.Str.ofString "asked_rule", PySem.Str.ofString "made_rule", PySem.Str.ofString "is_rule", PySem.Str.ofString "wrong_outside", PySem.Str.ofString "first_no_rule", PySem.Str.ofString "made_book", PySem.Str.ofString "is_book", PySem.Str.ofString "is_weight", PySem.Str.ofString "made_weights", PySem.Str.ofString "_law_pool", PySem.Str.ofString "_law_take", PySem.Str.ofString "_law_one", PySem.Str.ofString "_law_km_is_whole", PySem.Str.ofString "_law_km_is_in", PySem.Str.ofString "_law_km_same", PySem.Str.ofString "_law_km_rule_fault", PySem.Str.ofString "_law_km_book_fault", PySem.Str.ofString "_law_km_weights_fault", PySem.Str.ofString "_law_km_number", PySem.Str.ofString "_law_km_rule", PySem.Str.ofString "_law_km_entries", PySem.Str.ofString "_law_km_book", PySem.Str.ofString "_law_km_bent", PySem.Str.ofString "_law_fm_heard", PySem.Str.ofString "_law_fm_wrong_rules", PySem.Str.ofString "_law_fm_rules_right", PySem.Str.ofString "_law_fm_wrong_books", PySem.Str.ofString "_law_fm_books_right", PySem.Str.ofString "_law_fm_weights_right"] ++ ([PySem.Str.ofString "_law_fm_first_right", PySem.Str.ofString "_law_fm_bounds_right", PySem.Str.ofString "MOST_ENTRIES", PySem.Str.ofString "MOST_RULES"])
theorem run (w : World) : HandSHeadRun.RunEq R (PySem.W.view R.prog [48]) hk ob 6000 loose w := by
  intro os
  kernel_rfl
theorem at_law {w : World} {K : PySem.W.Frag} {mg : Str → Option Value} {h : Heap} (c : He.SaysX L.fa (L.fn [dInit, dHeard]) [] L.dfn (exB L.tb.cnm L.subT L.dfn) w h K) (KX : K.In h) (G : h.Ns mainGlobals mg) : LamX.LawAtS PySem.Challenge.rw_keptalone_k01_rules_books_and_weights_by w K (L2N.CX (PySem.Challenge.rw_keptalone_k01_rules_books_and_weights_by).prog w) (3 * NN) 63 "script" mg (He.ga K "law") h := by
  obtain ⟨fI, FI⟩ := c.t.d.def_ 36 (d := dInit) rfl
  obtain ⟨fh, FH⟩ := c.t.d.def_ 37 (d := dHeard) rfl
  have bI : Binds K fI ["self", "what"] [] := FunD.bindsN FI fun _ _ _ _ _ _ us hl => match us, hl with | [_, _], _ => by kernel_rfl
  have bH : Binds K fh [hd.a] [] := FunD.bindsN FH fun _ _ _ _ _ _ us hl => match us, hl with | [_], _ => by kernel_rfl
  have sI : FnScope ["self", "what"] ["self", "what"] (defScope stInit) := scB_ok (by kernel_rfl)
  have ini : ∀ base : Heap, FnOk (PySem.Challenge.rw_keptalone_k01_rules_books_and_weights_by).prog w K mg base (L2N.CX (PySem.Challenge.rw_keptalone_k01_rules_books_and_weights_by).prog w) 1 (He.ma K (cadK K tb.cnm 0) "__init__") fI ["self", "what"] (spI K) := fun base =>
    init_ok FI sI (by kernel_rfl) (by kernel_rfl) (by kernel_rfl) (by kernel_rfl) (ve_free c KX G) (exB_ok c.more).vV
  exact law_at (l := PySem.Challenge.rw_keptalone_k01_rules_books_and_weights_by) (L := L) (li := 35) (N := NN) (n := 63) (dl := d_law) (gl := f_law) (x := "script") (by decide) c KX G okb bnds (fun _ _ => rfl) rfl rfl rfl rfl rfl ini bI
    (fun base n tabs _ _ => heard_law (h := hd) (fx_of okb bnds (fun _ _ => rfl) c KX G base tabs) (ini base) bI FH bH (hrd_glo c KX G (List.mem_singleton.mpr rfl)) hdis rfl n) plain
end K01
open PySem PySem.W PySem.Calls PyProof.Rows
theorem PySem.Challenge.cw_keptalone_k01_rules_books_and_weights_by_holds : PySem.Challenge.rw_keptalone_k01_rules_books_and_weights_by.Holds := by
  w_on; o_law
  refine HandSHeadRun.head_any (r := OpenLaw.row PySem.Challenge.rw_keptalone_k01_rules_books_and_weights_by) (q := view (OpenLaw.row PySem.Challenge.rw_keptalone_k01_rules_books_and_weights_by).prog [48]) (H := K01.hk) (ob := K01.ob) (M := 6000) (loose := K01.loose) (d := HandSHeadRun.topDef (OpenLaw.row PySem.Challenge.rw_keptalone_k01_rules_books_and_weights_by).prog 48) (kwd := []) K01.ob_eq
    (by kernel_rfl) (fun s => by kernel_rfl) K01.run (by kernel_rfl) (by kernel_rfl) (by kernel_rfl) (by rfl) (by first | assumption | decide +kernel) (by decide +kernel) ⟨rfl, rfl, rfl, rfl, rfl, by decide +kernel⟩ ?hw ?hc
  case hw => w_witness2
  case hc =>
    refine LamX.walk_ofTsE (l := PySem.Challenge.rw_keptalone_k01_rules_books_and_weights_by) (n := 63) (k := 3 * K01.NN) (x := "script") (CX := fun w => L2N.CX (PySem.Challenge.rw_keptalone_k01_rules_books_and_weights_by).prog w) rfl (by decide) (by kernel_rfl) ⟨rfl, by decide, by decide⟩ ?F fun w H s e s' ⟨_, _, _, _, _, _, _, _, _, _, _, _, z⟩ => z
    intro w mg fa h Y G hmg0
    obtain ⟨K, KX, c⟩ := Y
    have c : He.SaysX K01.L.fa (K01.L.fn [K01.dInit, K01.dHeard]) [] K01.L.dfn (AM.exB K01.L.tb.cnm K01.L.subT K01.L.dfn) w h K := c
    have hmg : mg ("law" : PySem.Str) = some (.ref fa) := by
      have e : (HandSHeadRun.topDef (OpenLaw.row PySem.Challenge.rw_keptalone_k01_rules_books_and_weights_by).prog 48).name = ("law" : PySem.Str) := by kernel_rfl
      rw [← e]
      exact hmg0
    have e := hmg.symm.trans (He.glo_ok KX G (He.SaysD.facts c.t.d (f := .glo "law") (List.mem_append_left _ (List.mem_map.mpr ⟨("law" : PySem.Str), by show ("law" : PySem.Str) ∈ K01.tb.fnm; decide +kernel, rfl⟩))))
    cases e
    exact ⟨K, KX, K01.at_law c KX G⟩
