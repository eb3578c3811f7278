import PyProof.Rows.All
import Wide.All
import OpenK.AllK
import Wide.FinOn
import HandS.ForMost
import HandS.TupAny
import HandS.TupMul
import HandS.TupLe
import KE.DataEq
import KE.DataIsa
import KE.DataAny
import KE.LtData
import KE.SortData
import KE.KDictKeyed
import KE.KDictWalk
import HandS.Conv
import KE.DataFind
import PyProof.SeqIndex
import HandS.ExcCtx
import HandS.HotCalls
import HandS.ExcIs
import KE.KExcStr
import HandS.Flow
import HandS.Style
import HandS.Walk
import HandS.Zip
import HandS.More
import KE.KDictCopyH
import HandS.Codes
import HandS.Ends
import PySem.Challenge.RW_parallax_k04_what_is_a_watcher
set_option Elab.async false
set_option linter.all false
set_option maxRecDepth 100000
set_option maxHeartbeats 4000000
/-! Mp0: mini Python, the abstract machine over data (plain Lean) -/
namespace Mp
open PySem

abbrev D := PyData
def lim : Nat := 16777216

mutual
/-- neither list nor dict within -/
def flat : D → Bool
  | .none | .bool _ | .int _ | .str _ => true
  | .tuple xs => flatAll xs
  | .list _ | .dict _ => false
def flatAll : List D → Bool
  | [] => true
  | x :: xs => flat x && flatAll xs
end

/-- operations on data -/
inductive Op where
  | add | sub | mul | mod | fdiv | pow | neg
  | eq | ne | lt | le | gt | ge | isin | nin
  | isC (c : Nat) | isnC (c : Nat)
  | dnew
  | idx | slL | slH | slLH | slRev
  | len | isa (t : String) | isaX (c : Nat) | int | abs | min2 | max2 | maxT
  | tuple | list | srt | srtSet | repr | strX | index | count
  | rngL | rngT
  deriving DecidableEq

inductive Tg where
  | nm (i : Nat) | tup (ts : List Tg)

mutual
inductive E where
  | k (d : D)
  | glob (x : Str) (d : D)
  | nm (i : Nat)
  | fz (i : Nat)
  | op (o : Op) (es : Es)
  | tup (es : Es) | lst (es : Es)
  | dget (d k x : E)
  | chain (o o2 : Op) (a b c : E)
  | and (a b : E) | or (a b : E) | not (a : E)
  | ife (c a b : E)
  | asI (a : E)
  | call (f : Nat) (es : Es)
  | meth (o : Op) (a b : E)
  | lc (own : List Nat) (elt : E) (t : Tg) (it : I)
  | lcIf (own : List Nat) (elt : E) (t : Tg) (it : I) (c : E)
  | lc2 (own : List Nat) (elt : E) (t : Tg) (it : I) (t2 : Tg) (it2 : I) (own2 : List Nat)
  | dc (own : List Nat) (k v : E) (t : Tg) (it : I)
inductive Es where
  | nil | cons (e : E) (es : Es)
inductive I where
  | seq (e : E) | rng (e : E) | rng2 (a b : E) | zip2 (a b : E) | zip3 (a b c : E) | enum (e : E) | items (e : E) | keys (e : E)
end

/-- what is changed -/
inductive Mu where
  | app | ins | setI | setK | sdApp | sdSet | ixApp | aug (o : Op)
  deriving DecidableEq

mutual
inductive S where
  | asg (i : Nat) (e : E)
  | asgB (i : Nat) (e : E)
  | unp (t : Tg) (e : E)
  | par (is : List Nat) (es : Es)
  | ex (e : E)
  | ret (e : E)
  | mv (i : Nat)
  | retN
  | ite (c : E) (a b : Ss)
  | for_ (t : Tg) (it : I) (b : Ss)
  | while_ (c : E) (b : Ss)
  | brk | cnt | pass
  | raise (c : Nat)
  | aug (i : Nat) (o : Op) (e : E)
  | mut (m : Mu) (i : Nat) (es : Es)
  | popT (t : Tg) (i : Nat)
  | tryC (b : Ss) (i : Nat) (tg : Option Str) (f nx : Nat)
  | tryR (b : Ss) (c nx : Nat) (d : D)
inductive Ss where
  | nil | never | cons (s : S) (ss : Ss)
end

/-- a slot's value: data; a list or dict of its own (locked while it is walked); with parts of its own; an entry of the store; a caught exception -/
inductive SV where
  | dat (d : D) | own (d : D) | lck (d : D) | own2 (d : D) | gl (n : Nat) | exc (c : Nat)
/-- an entry of the store: a list -/
inductive GE where
  | lst (d : D)

structure Rho where
  sl : List (Option SV)
  g : List GE

inductive R1 (α : Type) where
  | ok (a : α) (r : Rho) | exc (c : Nat) (r : Rho)
abbrev M (α : Type) := Rho → Option (R1 α)
def M.ok {α : Type} (a : α) : M α := fun r => some (.ok a r)
def M.bnd {α β : Type} (m : M α) (f : α → M β) : M β := fun r => match m r with
  | none => none
  | some (.exc c r') => some (.exc c r')
  | some (.ok a r') => f a r'
def M.get {α : Type} (f : Rho → Option α) : M α := fun r => match f r with
  | none => none
  | some a => some (.ok a r)

/-- an operand: data; what stands in a slot, an entry of the store, read at the end; an exception -/
inductive Opd where
  | d (x : D) | p (i : Nat) | g (n : Nat) | ex (c : Nat)

def Rho.at (r : Rho) (i : Nat) : Option SV := (r.sl[i]?).join
def Rho.set (r : Rho) (i : Nat) (v : Option SV) : Rho := { r with sl := r.sl.set i v }

/-- an operand's data and whether it may have parts of its own -/
def Opd.res (r : Rho) : Opd → Option (D × Bool)
  | .d x => some (x, false)
  | .p i => match r.at i with
    | some (.own z) => some (z, false)
    | some (.lck z) => some (z, false)
    | some (.own2 z) => some (z, true)
    | _ => none
  | .g n => match r.g[n]? with
    | some (.lst z) => some (z, false)
    | none => none
  | .ex _ => none
def resAll (r : Rho) : List Opd → Option (List D × Bool)
  | [] => some ([], false)
  | o :: os => match o.res r, resAll r os with
    | some (z, b), some (ds, c) => some (z :: ds, b || c)
    | _, _ => none

def truth : D → Bool := PyData.truthy

def atD (xs : List D) (i : Int) : Option D := L2.atI xs i
def cutD (xs : List D) (lo hi : Option Int) : List D := (xs.drop (HT.sIx xs.length 0 lo)).take (HT.sIx xs.length xs.length hi - HT.sIx xs.length 0 lo)

/-- a list of data of one shape that sorted takes -/
def alikeB (ds : List D) : Bool := ds.all fun d => ds.all fun e => W.alike d e
def sortB (ds : List D) : Bool := (ds.all fun d => match d with | .tuple (_ :: _) => true | _ => false) || (ds.all fun d => match d with | .int _ | .str _ => true | _ => false)
def shallow (ds : List D) : Bool := ds.all fun d => decide (d.depth ≤ 40)
def sortD (ds : List D) : List D := ds.mergeSort (W.dataLe false id)

mutual
/-- a key: whole numbers, texts, tuples of these -/
def keyD : D → Bool
  | .int _ | .str _ => true
  | .tuple xs => keyAll xs
  | _ => false
def keyAll : List D → Bool
  | [] => true
  | x :: xs => keyD x && keyAll xs
end
def lookD (k : D) : List (D × D) → Option D
  | [] => none
  | (a, v) :: r => if PyData.eqv a k then some v else lookD k r
def putD (k v : D) : List (D × D) → List (D × D)
  | [] => [(k, v)]
  | (a, u) :: r => if PyData.eqv a k then (a, v) :: r else (a, u) :: putD k v r

/-- is x in this -/
def inD (x : D) : D → Option Bool
  | .list ys => if PyData.plain x && PyData.plainAll ys && decide (min (PyData.depthAll ys) x.depth ≤ 40) then some (ys.any fun y => PyData.eqv y x) else none
  | .tuple ys => if PyData.plain x && PyData.plainAll ys && decide (min (PyData.depthAll ys) x.depth ≤ 40) then some (ys.any fun y => PyData.eqv y x) else none
  | .dict kvs => if false && keyD x then some (lookD x kvs).isSome else none
  | _ => none

def cmpI (f : Int → Int → Bool) (g : Int → Int → Bool) : D → D → Option D
  | .int i, .int j => some (.bool (f i j))
  | _, _ => none

def szTup (xs : List D) : Option D := if xs.length ≤ lim then some (.tuple xs) else none
def szLst (xs : List D) : Option D := if xs.length ≤ lim then some (.list xs) else none

def isaD : String → D → Bool
  | "int", d => d.isInt
  | "bool", d => d.isBool
  | "tuple", d => d.isTuple
  | "list", d => d.isList
  | "str", d => d.isStr
  | _, _ => false

def repD (k : Int) (xs : List D) : List D := (List.replicate k.toNat xs).flatten
@[irreducible] def small (i : Int) : Bool := decide (-(2 ^ 64) < i) && decide (i < 2 ^ 64)
def minDep (a b : D) : Bool := decide (min a.depth b.depth ≤ 40)
def idxD (x : D) : List D → Option Nat
  | [] => none
  | y :: ys => if PyData.eqv y x then some 0 else (idxD x ys).map (· + 1)
/-- sorted, each once -/
def dedD : List D → List D
  | [] => []
  | x :: xs => match dedD xs with
    | [] => [x]
    | y :: ys => if PyData.eqv x y then y :: ys else x :: y :: ys
def isCD (c : Nat) (d : D) : Bool := match c, d with
  | 0, .none => true
  | 1, .bool true => true
  | 2, .bool false => true
  | _, _ => false
def rngD (lo hi : Int) : List D := (List.range (hi - lo).toNat).map fun (i : Nat) => .int (lo + i)
@[irreducible] def mid (i : Int) : Bool := decide (-(2 ^ 62) ≤ i) && decide (i < 2 ^ 62)

def f_add : List D → Option D
  | [.int i, .int j] => some (.int (i + j))
  | [.tuple xs, .tuple ys] => szTup (xs ++ ys)
  | [.list xs, .list ys] => szLst (xs ++ ys)
  | _ => none
def f_sub : List D → Option D
  | [.int i, .int j] => some (.int (i - j))
  | _ => none
def f_mul : List D → Option D
  | [.int i, .int j] => if small i || small j then some (.int (i * j)) else none
  | [.int i, .bool b] => some (.int (i * if b then 1 else 0))
  | [.tuple xs, .int k] => if 2 ≤ k ∧ k ≤ 1000 ∧ xs.length ≤ 1000 ∧ xs.isEmpty = false then some (.tuple (repD k xs)) else if k = 1 then some (.tuple xs) else if k = 0 ∧ xs.isEmpty = false then some (.tuple []) else none
  | [.list xs, .int k] => if mid k && decide (xs.length * k.toNat ≤ 16777216) then some (.list (repD k xs)) else none
  | _ => none
def f_mod : List D → Option D
  | [.int i, .int j] => if 0 < j then some (.int (i % j)) else none
  | _ => none
def f_fdiv : List D → Option D
  | [.int i, .int j] => if 0 < j ∧ j < 1073741824 then some (.int (i / j)) else none
  | _ => none
def f_pow : List D → Option D
  | [.int i, .int j] => if 0 ≤ j ∧ j ≤ 1000 ∧ i.natAbs < 2 ^ 64 then some (.int (i ^ j.toNat)) else none
  | _ => none
def f_neg : List D → Option D
  | [.int i] => some (.int (-i))
  | _ => none
def f_eq : List D → Option D
  | [a, b] => if PyData.plain a && PyData.plain b && minDep a b then some (.bool (PyData.eqv a b)) else none
  | _ => none
def f_ne : List D → Option D
  | [a, b] => if PyData.plain a && PyData.plain b && minDep a b then some (.bool (!PyData.eqv a b)) else none
  | _ => none
def f_lt : List D → Option D
  | [.int i, .int j] => some (.bool (decide (i < j)))
  | [.tuple xs, .tuple ys] => if W.alikeAll xs ys && minDep (.tuple xs) (.tuple ys) then some (.bool (W.dataLt (.tuple xs) (.tuple ys))) else none
  | _ => none
def f_le : List D → Option D
  | [.int i, .int j] => some (.bool (decide (i ≤ j)))
  | _ => none
def f_gt : List D → Option D
  | [.int i, .int j] => some (.bool (decide (j < i)))
  | _ => none
def f_ge : List D → Option D
  | [.int i, .int j] => some (.bool (decide (j ≤ i)))
  | _ => none
def f_isin : List D → Option D
  | [x, y] => (inD x y).map .bool
  | _ => none
def f_nin : List D → Option D
  | [x, y] => (inD x y).map fun b => .bool (!b)
  | _ => none
def f_isC (c : Nat) : List D → Option D
  | [d] => some (.bool (isCD c d))
  | _ => none
def f_isnC (c : Nat) : List D → Option D
  | [d] => some (.bool (!isCD c d))
  | _ => none
def f_dnew : List D → Option D
  | [] => some (.dict [])
  | _ => none
def f_idx : List D → Option D
  | [.tuple xs, .int i] => atD xs i
  | [.list xs, .int i] => atD xs i
  | [.dict kvs, k] => if false && keyD k then lookD k kvs else none
  | _ => none
def f_slL : List D → Option D
  | [.tuple xs, .int i] => some (.tuple (cutD xs (some i) none))
  | [.list xs, .int i] => some (.list (cutD xs (some i) none))
  | _ => none
def f_slH : List D → Option D
  | [.tuple xs, .int i] => some (.tuple (cutD xs none (some i)))
  | [.list xs, .int i] => some (.list (cutD xs none (some i)))
  | _ => none
def f_slLH : List D → Option D
  | [.tuple xs, .int i, .int j] => some (.tuple (cutD xs (some i) (some j)))
  | [.list xs, .int i, .int j] => some (.list (cutD xs (some i) (some j)))
  | _ => none
def f_slRev : List D → Option D
  | [.tuple xs] => some (.tuple xs.reverse)
  | [.list xs] => some (.list xs.reverse)
  | _ => none
def f_len : List D → Option D
  | [.tuple xs] => some (.int xs.length)
  | [.list xs] => some (.int xs.length)
  | [.dict kvs] => some (.int kvs.length)
  | _ => none
def f_isa (t : String) : List D → Option D
  | [d] => some (.bool (isaD t d))
  | _ => none
def f_int : List D → Option D
  | [.int i] => some (.int i)
  | [.bool b] => some (.int (if b then 1 else 0))
  | _ => none
def f_abs : List D → Option D
  | [.int i] => some (.int (if i < 0 then -i else i))
  | _ => none
def f_min2 : List D → Option D
  | [.int i, .int j] => some (.int (if j < i then j else i))
  | _ => none
def f_max2 : List D → Option D
  | [.int i, .int j] => some (.int (if j > i then j else i))
  | _ => none
def f_tuple : List D → Option D
  | [.list xs] => some (.tuple xs)
  | [.tuple xs] => some (.tuple xs)
  | _ => none
def f_list : List D → Option D
  | [.list xs] => some (.list xs)
  | [.tuple xs] => some (.list xs)
  | [.dict kvs] => some (.list (kvs.map (·.1)))
  | _ => none
def f_srt : List D → Option D
  | [.list xs] => if alikeB xs && sortB xs && shallow xs then some (.list (sortD xs)) else none
  | _ => none
def f_srtSet : List D → Option D
  | [.list xs] => if alikeB xs && xs.all keyD && shallow xs then some (.list (dedD (sortD xs))) else none
  | _ => none
def f_repr : List D → Option D
  | [d] => if PyData.showable d && PyData.plain d && decide (d.depth ≤ 40) && decide ((PyData.shown d).length ≤ lim) then some (.str (PyData.shown d)) else none
  | _ => none
def f_index : List D → Option D
  | [.list xs, d] => if PyData.plain d && PyData.plainAll xs && decide (min (PyData.depthAll xs) d.depth ≤ 40) then (idxD d xs).map fun (n : Nat) => .int n else none
  | [.tuple xs, d] => if PyData.plain d && PyData.plainAll xs && decide (min (PyData.depthAll xs) d.depth ≤ 40) then (idxD d xs).map fun (n : Nat) => .int n else none
  | _ => none
def f_count : List D → Option D
  | [.list xs, d] => if PyData.plain d && PyData.plainAll xs && decide (min (PyData.depthAll xs) d.depth ≤ 40) then some (.int (xs.countP fun y => PyData.eqv y d : Nat)) else none
  | _ => none
def f_rngL : List D → Option D
  | [.int n] => if mid n && decide (n ≤ 16777216) then some (.list (rngD 0 n)) else none
  | _ => none
def f_rngT : List D → Option D
  | [.int n] => if mid n && decide (n ≤ 16777216) then some (.tuple (rngD 0 n)) else none
  | _ => none
def opF : Op → List D → Option D
  | .add => f_add
  | .sub => f_sub
  | .mul => f_mul
  | .mod => f_mod
  | .fdiv => f_fdiv
  | .pow => f_pow
  | .neg => f_neg
  | .eq => f_eq
  | .ne => f_ne
  | .lt => f_lt
  | .le => f_le
  | .gt => f_gt
  | .ge => f_ge
  | .isin => f_isin
  | .nin => f_nin
  | .isC c => f_isC c
  | .isnC c => f_isnC c
  | .dnew => f_dnew
  | .idx => f_idx
  | .slL => f_slL
  | .slH => f_slH
  | .slLH => f_slLH
  | .slRev => f_slRev
  | .len => f_len
  | .isa t => f_isa t
  | .int => f_int
  | .abs => f_abs
  | .min2 => f_min2
  | .max2 => f_max2
  | .tuple => f_tuple
  | .list => f_list
  | .srt => f_srt
  | .srtSet => f_srtSet
  | .repr => f_repr
  | .index => f_index
  | .count => f_count
  | .rngL => f_rngL
  | .rngT => f_rngT
  | .isaX _ => fun _ => none
  | .maxT => fun _ => none
  | .strX => fun _ => none

/-- a call's end -/
inductive CR where
  | ret (v : SV) (g : List GE) | exc (c : Nat) (g : List GE)
/-- a def: pu: it leaves the store alone (and gets none) -/
structure Fn where
  pu : Bool
  n : Nat
  run : List SV → List GE → Option CR

def argSV (r : Rho) : Opd → Option (SV × Bool)
  | .d x => some (.dat x, false)
  | .p i => match r.at i with
    | some (.own d) => some (.dat d, true)
    | some (.lck d) => some (.dat d, true)
    | some (.own2 d) => some (.dat d, true)
    | _ => none
  | .g n => some (.gl n, false)
  | .ex c => some (.exc c, false)
def argsSV (r : Rho) : List Opd → Option (List SV × Bool)
  | [] => some ([], false)
  | o :: os => match argSV r o, argsSV r os with
    | some (v, b), some (vs, c) => some (v :: vs, b || c)
    | _, _ => none
def SV.isGl : SV → Bool
  | .gl _ => true
  | _ => false
def SV.ret : SV → Bool
  | .dat _ | .own _ | .gl _ => true
  | _ => false
def SV.out : SV → Bool
  | .dat _ | .own _ => true
  | _ => false
def svFlat : SV → Bool
  | .dat d => flat d
  | .own (.list xs) => flatAll xs
  | _ => false
def doCall (F : Fn) (os : List Opd) : M SV := fun r =>
  match argsSV r os with
  | none => none
  | some (vs, b) =>
    if vs.length ≠ F.n then none else
    if F.pu then
      if vs.any SV.isGl then none else
      match F.run vs [] with
      | none => none
      | some (.ret v _) => if (b && !svFlat v) || !v.out then none else some (.ok v r)
      | some (.exc c _) => some (.exc c r)
    else if b then none else
      match F.run vs r.g with
      | none => none
      | some (.ret v g) => if v.ret then some (.ok v { r with g := g }) else none
      | some (.exc c g) => some (.exc c { r with g := g })
def SV.opd : SV → Option Opd
  | .dat d => some (.d d)
  | .own d => some (.d d)
  | .gl n => some (.g n)
  | .exc c => some (.ex c)
  | _ => none

/-- a slot is written, if it is not locked -/
def wr (r : Rho) (i : Nat) (v : SV) : Option Rho := match r.at i with
  | some (.lck _) => none
  | _ => some (r.set i (some v))
mutual
def asgT : Tg → D → Rho → Option Rho
  | .nm i, d, r => wr r i (.dat d)
  | .tup ts, .tuple ds, r => asgTs ts ds r
  | .tup _, _, _ => none
def asgTs : List Tg → List D → Rho → Option Rho
  | [], [], r => some r
  | t :: ts, d :: ds, r => match asgT t d r with
    | none => none
    | some r' => asgTs ts ds r'
  | _, _, _ => none
end
mutual
/-- a target's slots lie within these -/
def tgIn (own : List Nat) : Tg → Bool
  | .nm i => own.contains i
  | .tup ts => tgsIn own ts
def tgsIn (own : List Nat) : List Tg → Bool
  | [] => true
  | t :: ts => tgIn own t && tgsIn own ts
end

def wipe (r : Rho) : List Nat → Rho
  | [] => r
  | i :: is => (wipe r is).set i none
/-- the own names' slots as they were -/
def back (r0 r : Rho) : List Nat → Rho
  | [] => r
  | i :: is => (back r0 r is).set i (r0.at i)
def lock (r : Rho) (i : Nat) : Rho := match r.at i with
  | some (.own d) => r.set i (some (.lck d))
  | _ => r
def unlock (r : Rho) (i : Nat) : Rho := match r.at i with
  | some (.lck d) => r.set i (some (.own d))
  | _ => r
def lockO (r : Rho) : Option Nat → Rho
  | none => r
  | some i => lock r i
/-- what r1 had as its own is so again -/
def unlockO (r1 r : Rho) : Option Nat → Rho
  | none => r
  | some i => match r1.at i with
    | some (.own _) => unlock r i
    | _ => r

/-- what a turn adds: nothing, or a thing -/
def goes (f : D → M (List D)) : List D → M (List D)
  | [] => .ok []
  | x :: xs => (f x).bnd fun ys => (goes f xs).bnd fun zs => .ok (ys ++ zs)
def noExc {α : Type} (m : M α) : M α := fun r => match m r with
  | some (.exc _ _) => none
  | x => x
def datO : Opd → Option D
  | .d x => some x
  | _ => none
def datsO : List Opd → Option (List D)
  | [] => some []
  | .d x :: os => (datsO os).map (x :: ·)
  | _ => none
def mapGo : List D → Option (List (D × D))
  | [] => some []
  | .tuple [k, v] :: r => (mapGo r).map ((k, v) :: ·)
  | _ => none
/-- the items of a thing that is walked -/
def itemsD : D → Option (List D)
  | .list xs => some xs
  | .tuple xs => some xs
  | .dict kvs => some (kvs.map (·.1))
  | _ => none
def enumD : Nat → List D → List D
  | _, [] => []
  | n, x :: xs => .tuple [.int n, x] :: enumD (n + 1) xs
def zipD (xs ys : List D) : List D := (xs.zip ys).map fun p => .tuple [p.1, p.2]
def zip3D : List D → List D → List D → List D
  | x :: xs, y :: ys, z :: zs => .tuple [x, y, z] :: zip3D xs ys zs
  | _, _, _ => []
def listD : D → Option (List D)
  | .list xs => some xs
  | .tuple xs => some xs
  | _ => none
/-- the place that is to be locked while it is walked -/
def lockOf : Opd → Option Nat
  | .p i => some i
  | _ => none
def outOwn (own : List Nat) : Option Nat → Bool
  | none => true
  | some i => !own.contains i
def walkable : Opd → Bool
  | .d _ | .p _ => true
  | _ => false

/-- a truth -/
def truO (x : Opd) (r : Rho) : Option Bool := match x.res r with
  | some (.str z, _) => if z.length ≤ lim then some (truth (.str z)) else none
  | some (.dict _, _) => none
  | some (d, _) => some (truth d)
  | none => none

/-- several names at once, stored from the right -/
def asgPar : List Nat → List D → Rho → Option Rho
  | [], [], r => some r
  | i :: is, d :: ds, r => match asgPar is ds r with
    | none => none
    | some r' => wr r' i (.dat d)
  | _, _, _ => none
/-- one turn's thing -/
def elt1 (m : M Opd) : M (List D) := m.bnd fun y => .get fun _ => (datO y).map fun z => [z]
def eltIf (m c : M Opd) : M (List D) := (c.bnd fun y => .get (truO y)).bnd fun k => if k then elt1 m else .ok []
def eltKV (mk mv : M Opd) : M (List D) := mk.bnd fun y => mv.bnd fun z => .get fun _ => match datO y, datO z with
  | some y, some z => if keyD y && decide (y.depth ≤ 7) then some [.tuple [y, z]] else none
  | _, _ => none
/-- a turn: the own names forgotten, the target, the thing -/
def turnM (own : List Nat) (t : Tg) (m : M (List D)) (x : D) : M (List D) := fun r => match asgT t x (wipe r own) with
  | none => none
  | some r' => noExc m r'
def elt2 (own own2 : List Nat) (t2 : Tg) (mi : M (List D × Option Nat)) (m : M (List D)) : M (List D) := mi.bnd fun q => if q.2.isSome || !tgIn own2 t2 || !own2.all own.contains then .get fun _ => none else goes (turnM own2 t2 m) q.1
def compM (own : List Nat) (t : Tg) (mi : M (List D × Option Nat)) (m : M (List D)) : M (List D) := mi.bnd fun p => fun r =>
  if tgIn own t && outOwn own p.2 then match goes (turnM own t m) p.1 (lockO r p.2) with
    | some (.ok ys r') => if ys.length ≤ lim then some (.ok ys (unlockO r (back r r' own) p.2)) else none
    | _ => none
  else none
def mkDict (ys : List D) : M (List (D × D)) := .get fun _ => (mapGo ys).map fun kvs => kvs.foldl (fun m p => putD p.1 p.2 m) []

/-- an operation's end -/
def opFin (o : Op) (os : List Opd) (r : Rho) : Option Opd := match resAll r os with
  | none => none
  | some (ds, b) => match opF o ds with
    | none => none
    | some d => if b && !flat d then none else some (.d d)
/-- a comparison within a chain -/
def opBool (o : Op) (os : List Opd) (r : Rho) : Option Bool := match opFin o os r with
  | some (.d (.bool k)) => some k
  | _ => none
def slotO (i : Nat) (r : Rho) : Option Opd := match r.at i with
  | some (.dat d) => some (.d d)
  | some (.own _) | some (.lck _) | some (.own2 _) => some (.p i)
  | some (.gl n) => some (.g n)
  | some (.exc c) => some (.ex c)
  | none => none
def fzM (i : Nat) : M Opd := fun r => match r.at i with
  | some (.dat d) => some (.ok (.d d) r)
  | some (.own d) | some (.own2 d) => some (.ok (.d d) (r.set i (some (.dat d))))
  | _ => none
def dgetFin (y z u : Opd) (r : Rho) : Option Opd := match resAll r [y, z], datO u with
  | some ([.dict kvs, k], false), some x => if keyD k && decide (k.depth ≤ 7) then some (.d ((lookD k kvs).getD x)) else none
  | _, _ => none
def isDictD : D → Bool
  | .dict _ => true
  | _ => false
def seqFin (x : Opd) (r : Rho) : Option (List D × Option Nat) := if walkable x then match x.res r with
  | some (d, false) => if isDictD d && (lockOf x).isSome then none else (itemsD d).map fun xs => (xs, lockOf x)
  | _ => none else none
def rngFin (x : Opd) (r : Rho) : Option (List D × Option Nat) := match x.res r with
  | some (.int n, _) => if mid n then some (rngD 0 n, none) else none
  | _ => none
def rng2Fin (x y : Opd) (r : Rho) : Option (List D × Option Nat) := match resAll r [x, y] with
  | some ([.int i, .int j], _) => if mid i && mid j then some (rngD i j, none) else none
  | _ => none
def zip2D : D → D → Option (List D)
  | .tuple xs, .tuple ys => some (zipD xs ys)
  | .list xs, .list ys => some (zipD xs ys)
  | _, _ => none
def zip2Fin (x y : Opd) (_ : Rho) : Option (List D × Option Nat) := (datO x).bind fun a => (datO y).bind fun b => (zip2D a b).map fun zs => (zs, none)
def zip3Fin (x y z : Opd) (_ : Rho) : Option (List D × Option Nat) := match (datO x).bind listD, (datO y).bind listD, (datO z).bind listD with
  | some xs, some ys, some zs => some (zip3D xs ys zs, none)
  | _, _, _ => none
def enumFin (x : Opd) (r : Rho) : Option (List D × Option Nat) := if walkable x then match x.res r with
  | some (.list xs, false) => some (enumD 0 xs, lockOf x)
  | _ => none else none
def itemsFin (x : Opd) (r : Rho) : Option (List D × Option Nat) := if walkable x then match x.res r with
  | some (.dict kvs, false) => some (kvs.map fun p => .tuple [p.1, p.2], lockOf x)
  | _ => none else none
def keysFin (x : Opd) (r : Rho) : Option (List D × Option Nat) := if walkable x then match x.res r with
  | some (.dict kvs, false) => some (kvs.map (·.1), lockOf x)
  | _ => none else none
def intO : Opd → Option Opd
  | .d (.int i) => some (.d (.int i))
  | _ => none
/-- a list -/
def kindD : D → Option Unit
  | .list _ => some ()
  | _ => none
def seqKind (x : Opd) (r : Rho) : Option Unit := (x.res r).bind fun p => kindD p.1
/-- x.index(y), x.count(y), x a list -/
def methFin (o : Op) (x y : Opd) (r : Rho) : Option Opd := if seqKind x r = some () then opFin o [x, y] r else none
def tupFin (os : List Opd) (_ : Rho) : Option Opd := (datsO os).bind fun ds => (szTup ds).map .d
def lstFin (os : List Opd) (_ : Rho) : Option Opd := (datsO os).bind fun ds => (szLst ds).map .d
section
variable (Fs : Nat → Fn)
mutual
def evE : E → M Opd
  | .k d => .ok (.d d)
  | .glob _ d => .ok (.d d)
  | .nm i => .get (slotO i)
  | .fz i => fzM i
  | .op o es => (evEs es).bnd fun os => .get (opFin o os)
  | .tup es => (evEs es).bnd fun os => .get (tupFin os)
  | .lst es => (evEs es).bnd fun os => .get (lstFin os)
  | .dget d k x => (evE d).bnd fun y => (evE k).bnd fun z => (evE x).bnd fun u => .get (dgetFin y z u)
  | .chain o o2 a b c => (evE a).bnd fun x => (evE b).bnd fun y => .bnd (.get (opBool o [x, y])) fun k => if k then (evE c).bnd fun z => .get (opFin o2 [y, z]) else .ok (.d (.bool false))
  | .and a b => (evE a).bnd fun x => .bnd (.get (truO x)) fun k => if k then evE b else .get fun _ => (datO x).map .d
  | .or a b => (evE a).bnd fun x => .bnd (.get (truO x)) fun k => if k then .get fun _ => (datO x).map .d else evE b
  | .not a => (evE a).bnd fun x => .bnd (.get (truO x)) fun k => .ok (.d (.bool (!k)))
  | .ife c a b => (evE c).bnd fun x => .bnd (.get (truO x)) fun k => if k then evE a else evE b
  | .asI a => (evE a).bnd fun x => .get fun _ => intO x
  | .call f es => (evEs es).bnd fun os => (doCall (Fs f) os).bnd fun v => .get fun _ => v.opd
  | .meth o a b => (evE a).bnd fun x => .bnd (.get (seqKind x)) fun _ => (evE b).bnd fun y => .get (methFin o x y)
  | .lc own elt t it => (compM own t (evI it) (elt1 (evE elt))).bnd fun xs => .ok (.d (.list xs))
  | .lcIf own elt t it c => (compM own t (evI it) (eltIf (evE elt) (evE c))).bnd fun xs => .ok (.d (.list xs))
  | .lc2 own elt t it t2 it2 own2 => (compM own t (evI it) (elt2 own own2 t2 (evI it2) (elt1 (evE elt)))).bnd fun xs => .ok (.d (.list xs))
  | .dc own k v t it => ((compM own t (evI it) (eltKV (evE k) (evE v))).bnd mkDict).bnd fun kvs => .ok (.d (.dict kvs))
def evEs : Es → M (List Opd)
  | .nil => .ok []
  | .cons e es => (evE e).bnd fun x => (evEs es).bnd fun xs => .ok (x :: xs)
/-- the items, the place that is to be locked -/
def evI : I → M (List D × Option Nat)
  | .seq e => (evE e).bnd fun x => .get (seqFin x)
  | .rng e => (evE e).bnd fun x => .get (rngFin x)
  | .rng2 a b => (evE a).bnd fun x => (evE b).bnd fun y => .get (rng2Fin x y)
  | .zip2 a b => (evE a).bnd fun x => (evE b).bnd fun y => .get (zip2Fin x y)
  | .zip3 a b c => (evE a).bnd fun x => (evE b).bnd fun y => (evE c).bnd fun z => .get (zip3Fin x y z)
  | .enum e => (evE e).bnd fun x => .get (enumFin x)
  | .items e => (evE e).bnd fun x => .get (itemsFin x)
  | .keys e => (evE e).bnd fun x => .get (keysFin x)
end

/-- a fresh list or dict is the slot's own -/
def Op.fresh : Op → Bool
  | .add | .mul | .dnew | .slL | .slH | .slLH | .slRev | .list | .srt | .srtSet | .rngL => true
  | _ => false
def isCont : D → Bool
  | .list _ | .dict _ => true
  | _ => false
def opFinT (o : Op) : Option Opd → Option SV
  | some (.d d) => some (if o.fresh && isCont d then .own d else .dat d)
  | _ => none
def lstFinT : Option Opd → Option SV
  | some (.d d) => some (.own d)
  | _ => none
def Opd.sv : Opd → Option SV
  | .d z => some (.dat z)
  | .g n => some (.gl n)
  | .ex c => some (.exc c)
  | .p _ => none
/-- a right side: what is made here stays its own -/
def evT : E → M SV
  | .op o es => (evEs Fs es).bnd fun os => .get fun r => opFinT o (opFin o os r)
  | .lst es => (evEs Fs es).bnd fun os => .get fun r => lstFinT (lstFin os r)
  | .call f es => (evEs Fs es).bnd fun os => doCall (Fs f) os
  | .lc own elt t it => (compM own t (evI Fs it) (elt1 (evE Fs elt))).bnd fun xs => .ok (.own (.list xs))
  | .lcIf own elt t it c => (compM own t (evI Fs it) (eltIf (evE Fs elt) (evE Fs c))).bnd fun xs => .ok (.own (.list xs))
  | .lc2 own elt t it t2 it2 own2 => (compM own t (evI Fs it) (elt2 own own2 t2 (evI Fs it2) (elt1 (evE Fs elt)))).bnd fun xs => .ok (.own (.list xs))
  | .dc own k v t it => ((compM own t (evI Fs it) (eltKV (evE Fs k) (evE Fs v))).bnd mkDict).bnd fun kvs => .ok (.own (.dict kvs))
  | e => (evE Fs e).bnd fun x => .get fun _ => x.sv
/-- a test -/
def evB (e : E) : M Bool := (evE Fs e).bnd fun x => .get (truO x)

inductive SR where
  | nx (r : Rho) | ret (v : SV) (g : List GE) | brk (r : Rho) | cnt (r : Rho) | exc (c : Nat) (r : Rho)

def forL (body : D → Rho → Option SR) : List D → Rho → Option SR
  | [], r => some (.nx r)
  | x :: xs, r => match body x r with
    | none => none
    | some (.nx r') => forL body xs r'
    | some (.cnt r') => forL body xs r'
    | some (.brk r') => some (.nx r')
    | some z => some z
def whileL (test : M Bool) (body : Rho → Option SR) : Nat → Rho → Option SR
  | 0, _ => none
  | n + 1, r => match test r with
    | none => none
    | some (.exc c r') => some (.exc c r')
    | some (.ok false r') => some (.nx r')
    | some (.ok true r') => match body r' with
      | none => none
      | some (.nx r') => whileL test body n r'
      | some (.cnt r') => whileL test body n r'
      | some (.brk r') => some (.nx r')
      | some z => some z
def whileMost : Nat := 1000000000
/-- then: what an expression gives, in a statement -/
def M.then {α : Type} (m : M α) (f : α → Rho → Option SR) (r : Rho) : Option SR := match m r with
  | none => none
  | some (.exc c r') => some (.exc c r')
  | some (.ok a r') => f a r'

/-- a list, a dict of its own: read and written -/
def Rho.getOwn (r : Rho) (i : Nat) : Option D := match r.at i with
  | some (.own d) => some d
  | some (.gl n) => match r.g[n]? with
    | some (.lst d) => some d
    | none => none
  | _ => none
def Rho.putOwn (r : Rho) (i : Nat) (d : D) : Rho := match r.at i with
  | some (.gl n) => { r with g := r.g.set n (.lst d) }
  | _ => r.set i (some (.own d))
/-- xs[i] = v -/
def setD (xs : List D) (i : Int) (v : D) : Option (List D) := (L2.ixN xs.length i).map fun j => xs.set j v
/-- xs.insert(i, v) -/
def insD (xs : List D) (i : Int) (v : D) : Option (List D) := if 0 ≤ i ∧ i ≤ xs.length then some (xs.take i.toNat ++ v :: xs.drop i.toNat) else none
/-- one change of an own thing by data -/
def muF : Mu → D → List D → Option D
  | .app, .list xs, [v] => if xs.length < lim then some (.list (xs ++ [v])) else none
  | .ins, .list xs, [.int i, v] => if xs.length < lim then (insD xs i v).map .list else none
  | .setI, .list xs, [v, .int i] => (setD xs i v).map .list
  | .setK, .dict kvs, [v, k] => if keyD k && decide (k.depth ≤ 7) && decide (kvs.length < lim) then some (.dict (putD k v kvs)) else none
  | .aug o, .list xs, [.int i, v] => match atD xs i with
    | some x => match opF o [x, v] with
      | some (.int y) => (setD xs i (.int y)).map .list
      | _ => none
    | none => none
  | _, _, _ => none
/-- a level below: d.setdefault(k, []).append(v), d.setdefault(k, {})[j] = v, xs[i].append(v) -/
def mu2F : Mu → D → List D → Option D
  | .sdApp, .dict kvs, [k, v] => if keyD k && decide (k.depth ≤ 7) && decide (kvs.length < lim) then match (lookD k kvs).getD (.list []) with
    | .list xs => if xs.length < lim then some (.dict (putD k (.list (xs ++ [v])) kvs)) else none
    | _ => none else none
  | .sdSet, .dict kvs, [v, k, j] => if keyD k && decide (k.depth ≤ 7) && decide (kvs.length < lim) then match (lookD k kvs).getD (.dict []) with
    | .dict m => match j with
      | .int j => if m.length < lim then some (.dict (putD k (.dict (putD (.int j) v m)) kvs)) else none
      | _ => none
    | _ => none else none
  | .ixApp, .list xs, [.int i, v] => match atD xs i with
    | some (.list ys) => if ys.length < lim then (setD xs i (.list (ys ++ [v]))).map .list else none
    | _ => none
  | _, _, _ => none
def Mu.deep : Mu → Bool
  | .sdApp | .sdSet | .ixApp => true
  | _ => false
/-- nothing within yet: it may get parts of its own -/
def bare : D → Bool
  | .list [] => true
  | .dict [] => true
  | _ => false
def mutS (m : Mu) (i : Nat) (os : List Opd) (r : Rho) : Option SR := match datsO os with
  | none => none
  | some ds =>
    if m.deep then match r.at i with
      | some (.own2 d) => (mu2F m d ds).map fun d' => .nx (r.set i (some (.own2 d')))
      | some (.own d) => if bare d then (mu2F m d ds).map fun d' => .nx (r.set i (some (.own2 d'))) else none
      | _ => none
    else match r.getOwn i with
      | none => none
      | some d => (muF m d ds).map fun d' => .nx (r.putOwn i d')

/-- the thing that is to be changed is of the right kind ahead of the arguments -/
def guardM (m : Mu) (i : Nat) (r : Rho) : Bool := if m.deep then match r.at i with
    | some (.own _) | some (.own2 _) => true
    | _ => false
  else match m, r.getOwn i with
    | .setK, some (.dict _) => true
    | .setK, _ => false
    | _, some (.list _) => true
    | _, _ => false
/-- x op= e behind e -/
def augM (i : Nat) (o : Op) (x : Opd) (r : Rho) : Option SR := match r.at i, x.res r with
  | some (.dat (.int a)), some (.int b, _) => match opF o [.int a, .int b] with
    | some (.int z) => (wr r i (.dat (.int z))).map .nx
    | _ => none
  | _, _ => none
def intAt (r : Rho) (i : Nat) : Bool := match r.at i with
  | some (.dat (.int _)) => true
  | _ => false
def tagged (z : Str) : Option Str → D
  | some y => .tuple [.str y, .str z]
  | none => .str z
/-- what is told of an exception: its class, perhaps behind a word -/
def told (tg : Option Str) (nx c : Nat) : Option CR → Option D
  | some (.ret (.dat (.str z)) []) => if c < nx then some (tagged z tg) else none
  | _ => none
mutual
def evS : S → Rho → Option SR
  | .asg i e => (evT Fs e).then fun v r => (wr r i v).map .nx
  | .asgB i e => (evT Fs e).then fun v r => match v with
    | .own d => (wr { r with g := r.g ++ [GE.lst d] } i (.gl r.g.length)).map .nx
    | _ => none
  | .unp t e => (evE Fs e).then fun x r => match x with
    | .d d => (asgT t d r).map .nx
    | _ => none
  | .par is es => (evEs Fs es).then fun xs r => match datsO xs with
    | some ds => (asgPar is ds r).map .nx
    | none => none
  | .ex e => (evE Fs e).then fun _ r => some (.nx r)
  | .ret e => (evT Fs e).then fun v r => some (.ret v r.g)
  | .mv i => fun r => match r.at i with
    | some (.own d) => some (.ret (.own d) r.g)
    | some (.dat d) => some (.ret (.dat d) r.g)
    | _ => none
  | .retN => fun r => some (.ret (.dat .none) r.g)
  | .ite c a b => (evB Fs c).then fun k r => if k then evSs a r else evSs b r
  | .for_ t it b => (evI Fs it).then fun p r => match forL (fun x r => match asgT t x r with
      | none => none
      | some r' => evSs b r') p.1 (lockO r p.2) with
    | some (.nx r') => some (.nx (unlockO r r' p.2))
    | some (.exc c r') => some (.exc c (unlockO r r' p.2))
    | z => z
  | .while_ c b => whileL (evB Fs c) (evSs b) whileMost
  | .brk => fun r => some (.brk r)
  | .cnt => fun r => some (.cnt r)
  | .pass => fun r => some (.nx r)
  | .raise c => fun r => some (.exc c r)
  | .aug i o e => fun r0 => if intAt r0 i then (evE Fs e).then (augM i o) r0 else none
  | .mut m i es => fun r => if guardM m i r then (evEs Fs es).then (fun os r => mutS m i os r) r else none
  | .popT t i => fun r => match r.at i with
    | some (.own (.list xs)) => match xs.getLast? with
      | some d => (asgT t d (r.set i (some (.own (.list xs.dropLast))))).map .nx
      | none => none
    | _ => none
  | .tryC b _ tg f nx => fun r => match evSs b r with
    | some (.exc c r') => (told tg nx c ((Fs f).run [.exc c] [])).map fun d => .ret (.dat d) r'.g
    | z => z
  | .tryR b c nx d => fun r => match evSs b r with
    | some (.exc e r') => if e < nx ∧ c ≠ 0 then if e = c then some (.ret (.dat d) r'.g) else some (.exc e r') else none
    | z => z
def evSs : Ss → Rho → Option SR
  | .nil => fun r => some (.nx r)
  | .never => fun _ => none
  | .cons s ss => fun r => match evS s r with
    | some (.nx r') => evSs ss r'
    | z => z
end
end

/-- a def's run: the slots' number, the body -/
def fnRun (Fs : Nat → Fn) (n : Nat) (b : Ss) (vs : List SV) (g : List GE) : Option CR := match evSs Fs b ⟨vs.map some ++ List.replicate (n - vs.length) none, g⟩ with
  | some (.nx r) => some (.ret (.dat .none) r.g)
  | some (.ret v g) => some (.ret v g)
  | some (.exc c r) => some (.exc c r.g)
  | _ => none
/-- a def that is never run -/
def vd : Fn := ⟨true, 0, fun _ _ => none⟩
def ofL (l : List Fn) (i : Nat) : Fn := l.getD i vd
def clsTxt : Nat → Option Str
  | 1 => some "system"
  | 2 => some "watcher"
  | 3 => some "question"
  | 4 => some "path"
  | 5 => some "much"
  | _ => none
/-- the def that tells the class -/
def clsRun : List SV → Option CR
  | [.exc c] => (clsTxt c).map fun z => .ret (.dat (.str z)) []
  | _ => none
def clsFn : Fn := ⟨true, 1, fun vs _ => clsRun vs⟩
def absI (i : Int) : Int := if i < 0 then -i else i
/-- the box that the law begins with -/
def boxD (ns : List Int) : D := .list [.int 0, .int 0, .int 0, .list (ns.map fun i => .int (absI i))]
/-- the law's run behind its first line -/
def lawRun (Fs : Nat → Fn) (n i : Nat) (B : Ss) (ns : List Int) : Option SR := evSs Fs B ⟨(List.replicate n none).set i (some (.gl 0)), [.lst (boxD ns)]⟩
end Mp
set_option Elab.async false
set_option linter.all false
set_option maxRecDepth 100000
set_option maxHeartbeats 4000000
/-! Mp1: data in the abstract heap, what a slot holds, the relation of the two machines -/
namespace Mp
open PySem PySem.Spec PyProof.Rows L2

/-- a dict's raw entries and its epoch -/
abbrev DE := Array DictEntry × Nat
/-- a dict, by these -/
def dO (a : Addr) (es : DE) : HO := .ext fun h => h.DictRaw a es.1 es.2

mutual
def toKey : D → NestedKey
  | .int i => .num i
  | .str x => .text x
  | .tuple xs => .tup (toKeys xs)
  | _ => .none
def toKeys : List D → List NestedKey
  | [] => []
  | x :: xs => toKey x :: toKeys xs
end
def hashD (w : World) : D → Int
  | .int i => hashInt i
  | d => (toKey d).hash w
def tupK : D → Bool
  | .tuple _ => true
  | _ => false
def intK : D → Bool
  | .int _ => true
  | _ => false
/-- the keys of a dict: all tuples or all whole numbers, unlike -/
structure Wf (kvs : List (D × D)) : Prop where
  len : kvs.length ≤ sizeLine
  key : ∀ p ∈ kvs, keyD p.1 = true ∧ p.1.depth ≤ 7
  kind : (∀ p ∈ kvs, tupK p.1 = true) ∨ ∀ p ∈ kvs, intK p.1 = true
  nd : (kvs.map (·.1)).Pairwise fun a b => PyData.eqv a b = false

mutual
/-- the value v denotes d; F: the lists and dicts that stay as they are -/
inductive Den (w : World) (F : Addr → Prop) (H : Hp) : V → D → Prop
  | non : Den w F H .non .none
  | bl (b) : Den w F H (.bl b) (.bool b)
  | int (i) : Den w F H (.int i) (.int i)
  | str (x) : Den w F H (.str x) (.str x)
  | tup {a vs ds} : H a = some (.tup vs) → Dens w F H vs ds → Den w F H (.ref a) (.tuple ds)
  | lst {a vs ds} : F a → H a = some (.lst vs) → Dens w F H vs ds → Den w F H (.ref a) (.list ds)
  | dic {a es kvs} : F a → H a = some (dO a es) → (a == sysModules) = false → Wf kvs → DEnts w F H es.1.toList kvs → Den w F H (.ref a) (.dict kvs)
inductive Dens (w : World) (F : Addr → Prop) (H : Hp) : List V → List D → Prop
  | nil : Dens w F H [] []
  | cons {v d vs ds} : Den w F H v d → Dens w F H vs ds → Dens w F H (v :: vs) (d :: ds)
inductive DEnts (w : World) (F : Addr → Prop) (H : Hp) : List DictEntry → List (D × D) → Prop
  | nil : DEnts w F H [] []
  | cons {e kv vv k v es kvs} : RelV kv e.key → RelV vv e.val → Den w F H kv k → Den w F H vv v → e.hash = hashD w k → DEnts w F H es kvs → DEnts w F H (e :: es) ((k, v) :: kvs)
end

section
variable {w : World} {F F' : Addr → Prop} {H H' : Hp}
/-- what a step keeps -/
structure Kp (F F' : Addr → Prop) (H H' : Hp) : Prop where
  f : ∀ a, F a → F' a
  h : ∀ a o, F a → H a = some o → H' a = some o
  t : ∀ a xs, H a = some (.tup xs) → H' a = some (.tup xs)
mutual
theorem Den.kp (k : Kp F F' H H') : ∀ {v d}, Den w F H v d → Den w F' H' v d
  | _, _, .non => .non
  | _, _, .bl b => .bl b
  | _, _, .int i => .int i
  | _, _, .str x => .str x
  | _, _, .tup e r => .tup (k.t _ _ e) (Dens.kp k r)
  | _, _, .lst f e r => .lst (k.f _ f) (k.h _ _ f e) (Dens.kp k r)
  | _, _, .dic f e z wf r => .dic (k.f _ f) (k.h _ _ f e) z wf (DEnts.kp k r)
theorem Dens.kp (k : Kp F F' H H') : ∀ {vs ds}, Dens w F H vs ds → Dens w F' H' vs ds
  | _, _, .nil => .nil
  | _, _, .cons r t => .cons (Den.kp k r) (Dens.kp k t)
theorem DEnts.kp (k : Kp F F' H H') : ∀ {es kvs}, DEnts w F H es kvs → DEnts w F' H' es kvs
  | _, _, .nil => .nil
  | _, _, .cons a b c d e t => .cons a b (Den.kp k c) (Den.kp k d) e (DEnts.kp k t)
end
theorem Kp.refl : Kp F F H H := ⟨fun _ h => h, fun _ _ _ h => h, fun _ _ h => h⟩
theorem Kp.trans {F2 : Addr → Prop} {H2 : Hp} (a : Kp F F' H H') (b : Kp F' F2 H' H2) : Kp F F2 H H2 :=
  ⟨fun x h => b.f x (a.f x h), fun x o f h => b.h x o (a.f x f) (a.h x o f h), fun x xs h => b.t x xs (a.t x xs h)⟩
/-- all that stood stands -/
theorem Kp.same (s : Same H H') : Kp F F H H' := ⟨fun _ h => h, fun a o _ h => s a o h, fun a xs h => s a _ h⟩

theorem Dens.len : ∀ {vs ds}, Dens w F H vs ds → vs.length = ds.length
  | _, _, .nil => rfl
  | _, _, .cons _ t => by simp [Dens.len t]
theorem Dens.get : ∀ {vs ds} {i : Nat} {d : D}, Dens w F H vs ds → ds[i]? = some d → ∃ v, vs[i]? = some v ∧ Den w F H v d
  | _, _, _, _, .nil, e => by simp at e
  | _, _, 0, _, .cons r _, e => by simp at e; subst e; exact ⟨_, rfl, r⟩
  | _, _, i + 1, _, .cons _ t, e => by simpa using Dens.get (i := i) t (by simpa using e)
theorem Dens.getV : ∀ {vs ds} {i : Nat} {v : V}, Dens w F H vs ds → vs[i]? = some v → ∃ d, ds[i]? = some d ∧ Den w F H v d
  | _, _, _, _, .nil, e => by simp at e
  | _, _, 0, _, .cons r _, e => by simp at e; subst e; exact ⟨_, rfl, r⟩
  | _, _, i + 1, _, .cons _ t, e => by simpa using Dens.getV (i := i) t (by simpa using e)
theorem Dens.app : ∀ {vs ds us es}, Dens w F H vs ds → Dens w F H us es → Dens w F H (vs ++ us) (ds ++ es)
  | _, _, _, _, .nil, s => s
  | _, _, _, _, .cons r t, s => .cons r (Dens.app t s)
theorem Dens.take : ∀ {vs ds} (n : Nat), Dens w F H vs ds → Dens w F H (vs.take n) (ds.take n)
  | _, _, 0, _ => .nil
  | _, _, _ + 1, .nil => .nil
  | _, _, n + 1, .cons r t => .cons r (Dens.take n t)
theorem Dens.drop : ∀ {vs ds} (n : Nat), Dens w F H vs ds → Dens w F H (vs.drop n) (ds.drop n)
  | _, _, 0, r => r
  | _, _, _ + 1, .nil => .nil
  | _, _, n + 1, .cons _ t => Dens.drop n t
theorem Dens.rev {vs ds} (h : Dens w F H vs ds) : Dens w F H vs.reverse ds.reverse := by
  have go : ∀ {vs ds us es}, Dens w F H vs ds → Dens w F H us es → Dens w F H (vs.reverse ++ us) (ds.reverse ++ es) := by
    intro vs
    induction vs with
    | nil => intro ds us es h s; cases h; exact s
    | cons v vs ih =>
      intro ds us es h s
      cases h with
      | cons r t =>
        rename_i d ds
        simpa using ih t (.cons r s)
  simpa using go h .nil
theorem Dens.set : ∀ {vs ds v d} (i : Nat), Dens w F H vs ds → Den w F H v d → Dens w F H (vs.set i v) (ds.set i d)
  | _, _, _, _, _, .nil, _ => .nil
  | _, _, _, _, 0, .cons _ t, r => .cons r t
  | _, _, _, _, i + 1, .cons q t, r => .cons q (Dens.set i t r)
theorem Dens.replicate {v d} (n : Nat) (h : Den w F H v d) : Dens w F H (List.replicate n v) (List.replicate n d) := by
  induction n with
  | zero => exact .nil
  | succ n ih => exact .cons h ih
theorem Dens.flat {vs ds} (n : Nat) (h : Dens w F H vs ds) : Dens w F H (List.replicate n vs).flatten (List.replicate n ds).flatten := by
  induction n with
  | zero => exact .nil
  | succ n ih => simpa [List.replicate_succ] using h.app ih
theorem Dens.ints : ∀ (l : List Int), Dens w F H (l.map V.int) (l.map PyData.int)
  | [] => .nil
  | i :: l => .cons (.int i) (Dens.ints l)

/-- a list or dict of one's own at a, its parts data -/
def Own1 (w : World) (F : Addr → Prop) (H : Hp) (v : V) (d : D) (a : Addr) : Prop := v = .ref a ∧
  ((∃ vs ds, d = .list ds ∧ H a = some (.lst vs) ∧ Dens w F H vs ds) ∨
   ∃ es kvs, d = .dict kvs ∧ H a = some (dO a es) ∧ (a == sysModules) = false ∧ Wf kvs ∧ DEnts w F H es.1.toList kvs)
/-- parts of one's own -/
inductive Kids (w : World) (F : Addr → Prop) (H : Hp) : List V → List D → List Addr → Prop
  | nil : Kids w F H [] [] []
  | cons {v d b vs ds bs} : Own1 w F H v d b → Kids w F H vs ds bs → Kids w F H (v :: vs) (d :: ds) (b :: bs)
inductive DKids (w : World) (F : Addr → Prop) (H : Hp) : List DictEntry → List (D × D) → List Addr → Prop
  | nil : DKids w F H [] [] []
  | cons {e kv vv k v b es kvs bs} : RelV kv e.key → RelV vv e.val → Den w F H kv k → Own1 w F H vv v b → e.hash = hashD w k → DKids w F H es kvs bs → DKids w F H (e :: es) ((k, v) :: kvs) (b :: bs)
def Own2 (w : World) (F : Addr → Prop) (H : Hp) (v : V) (d : D) (A : List Addr) : Prop := ∃ a bs, v = .ref a ∧ A = a :: bs ∧
  ((∃ vs ds, d = .list ds ∧ H a = some (.lst vs) ∧ Kids w F H vs ds bs) ∨
   ∃ es kvs, d = .dict kvs ∧ H a = some (dO a es) ∧ (a == sysModules) = false ∧ Wf kvs ∧ DKids w F H es.1.toList kvs bs)
theorem Own1.kp {v d a} (k : Kp F F' H H') (ha : ∀ o, H a = some o → H' a = some o) (o : Own1 w F H v d a) : Own1 w F' H' v d a := by
  obtain ⟨e, ⟨vs, ds, e1, e2, r⟩ | ⟨es, kvs, e1, e2, z, wf, r⟩⟩ := o
  · exact ⟨e, .inl ⟨vs, ds, e1, ha _ e2, r.kp k⟩⟩
  · exact ⟨e, .inr ⟨es, kvs, e1, ha _ e2, z, wf, r.kp k⟩⟩
theorem Own1.there {v d a} (o : Own1 w F H v d a) : ∃ x, H a = some x ∧ ∀ xs, x ≠ .tup xs := by
  obtain ⟨e, ⟨vs, ds, e1, e2, r⟩ | ⟨es, kvs, e1, e2, z, wf, r⟩⟩ := o
  · exact ⟨_, e2, fun _ z => by cases z⟩
  · exact ⟨_, e2, fun _ z => by cases z⟩
theorem Own1.fz {v d a} (o : Own1 w F H v d a) (f : F a) : Den w F H v d := by
  obtain ⟨e, ⟨vs, ds, e1, e2, r⟩ | ⟨es, kvs, e1, e2, z, wf, r⟩⟩ := o
  · subst e e1; exact .lst f e2 r
  · subst e e1; exact .dic f e2 z wf r
theorem Kids.kp (k : Kp F F' H H') : ∀ {vs ds bs}, (∀ b ∈ bs, ∀ o, H b = some o → H' b = some o) → Kids w F H vs ds bs → Kids w F' H' vs ds bs
  | _, _, _, _, .nil => .nil
  | _, _, _, h, .cons o t => .cons (o.kp k (h _ (by simp))) (Kids.kp k (fun b hb => h b (by simp [hb])) t)
theorem Kids.there : ∀ {vs ds bs}, Kids w F H vs ds bs → ∀ b ∈ bs, ∃ x, H b = some x ∧ ∀ xs, x ≠ .tup xs
  | _, _, _, .nil, _, hb => by simp at hb
  | _, _, _, .cons o t, b, hb => by
    rcases List.mem_cons.mp hb with rfl | hb
    · exact o.there
    · exact Kids.there t b hb
theorem Kids.fz : ∀ {vs ds bs}, (∀ b ∈ bs, F b) → Kids w F H vs ds bs → Dens w F H vs ds
  | _, _, _, _, .nil => .nil
  | _, _, _, h, .cons o t => .cons (o.fz (h _ (by simp))) (Kids.fz (fun b hb => h b (by simp [hb])) t)
theorem DKids.kp (k : Kp F F' H H') : ∀ {es kvs bs}, (∀ b ∈ bs, ∀ o, H b = some o → H' b = some o) → DKids w F H es kvs bs → DKids w F' H' es kvs bs
  | _, _, _, _, .nil => .nil
  | _, _, _, h, .cons a b c o e t => .cons a b (c.kp k) (o.kp k (h _ (by simp))) e (DKids.kp k (fun b hb => h b (by simp [hb])) t)
theorem DKids.there : ∀ {es kvs bs}, DKids w F H es kvs bs → ∀ b ∈ bs, ∃ x, H b = some x ∧ ∀ xs, x ≠ .tup xs
  | _, _, _, .nil, _, hb => by simp at hb
  | _, _, _, .cons _ _ _ o _ t, b, hb => by
    rcases List.mem_cons.mp hb with rfl | hb
    · exact o.there
    · exact DKids.there t b hb
theorem DKids.fz : ∀ {es kvs bs}, (∀ b ∈ bs, F b) → DKids w F H es kvs bs → DEnts w F H es kvs
  | _, _, _, _, .nil => .nil
  | _, _, _, h, .cons a b c o e t => .cons a b c (o.fz (h _ (by simp))) e (DKids.fz (fun b hb => h b (by simp [hb])) t)
theorem Own2.kp {v d A} (k : Kp F F' H H') (ha : ∀ a ∈ A, ∀ o, H a = some o → H' a = some o) (o : Own2 w F H v d A) : Own2 w F' H' v d A := by
  obtain ⟨a, bs, e, rfl, ⟨vs, ds, e1, e2, r⟩ | ⟨es, kvs, e1, e2, z, wf, r⟩⟩ := o
  · exact ⟨a, bs, e, rfl, .inl ⟨vs, ds, e1, ha a (by simp) _ e2, r.kp k fun b hb => ha b (by simp [hb])⟩⟩
  · exact ⟨a, bs, e, rfl, .inr ⟨es, kvs, e1, ha a (by simp) _ e2, z, wf, r.kp k fun b hb => ha b (by simp [hb])⟩⟩
theorem Own2.there {v d A} (o : Own2 w F H v d A) : ∀ b ∈ A, ∃ x, H b = some x ∧ ∀ xs, x ≠ .tup xs := by
  obtain ⟨a, bs, e, rfl, ⟨vs, ds, e1, e2, r⟩ | ⟨es, kvs, e1, e2, z, wf, r⟩⟩ := o
  · intro b hb
    rcases List.mem_cons.mp hb with rfl | hb
    · exact ⟨_, e2, fun _ z => by cases z⟩
    · exact r.there b hb
  · intro b hb
    rcases List.mem_cons.mp hb with rfl | hb
    · exact ⟨_, e2, fun _ z => by cases z⟩
    · exact r.there b hb
theorem Own2.fz {v d A} (o : Own2 w F H v d A) (f : ∀ a ∈ A, F a) : Den w F H v d := by
  obtain ⟨a, bs, e, rfl, ⟨vs, ds, e1, e2, r⟩ | ⟨es, kvs, e1, e2, z, wf, r⟩⟩ := o
  · subst e e1; exact .lst (f _ (by simp)) e2 (r.fz fun b hb => f b (by simp [hb]))
  · subst e e1; exact .dic (f _ (by simp)) e2 z wf (r.fz fun b hb => f b (by simp [hb]))

/-- what a slot's value is; its own addresses -/
def SVR (w : World) (F : Addr → Prop) (H : Hp) (al : List Addr) (v : V) : SV → List Addr → Prop
  | .dat d, A => A = [] ∧ Den w F H v d
  | .own d, A => ∃ a, A = [a] ∧ Own1 w F H v d a
  | .lck d, A => ∃ a, A = [a] ∧ Own1 w F H v d a
  | .own2 d, A => Own2 w F H v d A
  | .gl n, A => A = [] ∧ ∃ a, al[n]? = some a ∧ v = .ref a
  | .exc _, _ => False
theorem SVR.kp {al more v sv A} (k : Kp F F' H H') (ha : ∀ a ∈ A, ∀ o, H a = some o → H' a = some o) (s : SVR w F H al v sv A) : SVR w F' H' (al ++ more) v sv A := by
  cases sv with
  | dat d => exact ⟨s.1, s.2.kp k⟩
  | own d => obtain ⟨a, rfl, o⟩ := s; exact ⟨a, rfl, o.kp k (ha a (by simp))⟩
  | lck d => obtain ⟨a, rfl, o⟩ := s; exact ⟨a, rfl, o.kp k (ha a (by simp))⟩
  | own2 d => exact Own2.kp k ha s
  | gl n => obtain ⟨rfl, a, e, ev⟩ := s; exact ⟨rfl, a, by rw [List.getElem?_append_left]; exact e; exact (List.getElem?_eq_some_iff.mp e).1, ev⟩
  | exc c => exact s
theorem SVR.there {al v sv A} (s : SVR w F H al v sv A) : ∀ b ∈ A, ∃ x, H b = some x ∧ ∀ xs, x ≠ .tup xs := by
  cases sv with
  | dat d => obtain ⟨rfl, _⟩ := s; simp
  | own d => obtain ⟨a, rfl, o⟩ := s; intro b hb; simp at hb; subst hb; exact o.there
  | lck d => obtain ⟨a, rfl, o⟩ := s; intro b hb; simp at hb; subst hb; exact o.there
  | own2 d => exact Own2.there s
  | gl n => obtain ⟨rfl, _⟩ := s; simp
  | exc c => exact s.elim

inductive Sl (w : World) (F : Addr → Prop) (H : Hp) (al : List Addr) : List (Option SV) → List (Option V) → List Addr → Prop
  | nil : Sl w F H al [] [] []
  | non {v sl σ A} : Sl w F H al sl σ A → Sl w F H al (none :: sl) (v :: σ) A
  | cons {sv v sl σ A B} : SVR w F H al v sv A → Sl w F H al sl σ B → Sl w F H al (some sv :: sl) (some v :: σ) (A ++ B)
theorem Sl.kp {al more} (k : Kp F F' H H') : ∀ {sl σ A}, (∀ a ∈ A, ∀ o, H a = some o → H' a = some o) → Sl w F H al sl σ A → Sl w F' H' (al ++ more) sl σ A
  | _, _, _, _, .nil => .nil
  | _, _, _, h, .non t => .non (Sl.kp k h t)
  | _, _, _, h, .cons s t => .cons (s.kp k fun a ha => h a (by simp [ha])) (Sl.kp k (fun a ha => h a (by simp [ha])) t)
theorem Sl.there {al} : ∀ {sl σ A}, Sl w F H al sl σ A → ∀ b ∈ A, ∃ x, H b = some x ∧ ∀ xs, x ≠ .tup xs
  | _, _, _, .nil, _, hb => by simp at hb
  | _, _, _, .non t, b, hb => Sl.there t b hb
  | _, _, _, .cons s t, b, hb => by
    rcases List.mem_append.mp hb with hb | hb
    · exact s.there b hb
    · exact Sl.there t b hb
theorem Sl.len {al} : ∀ {sl σ A}, Sl w F H al sl σ A → sl.length = σ.length
  | _, _, _, .nil => rfl
  | _, _, _, .non t => by simp [Sl.len t]
  | _, _, _, .cons _ t => by simp [Sl.len t]
/-- one slot read; what is left with another value there -/
theorem Sl.at {al} : ∀ {sl σ A} {i : Nat} {sv : SV}, Sl w F H al sl σ A → sl[i]? = some (some sv) →
    ∃ v A1 A2 A3, σ[i]? = some (some v) ∧ A = A1 ++ A2 ++ A3 ∧ SVR w F H al v sv A2 ∧
      (∀ sv' v' A2', SVR w F H al v' sv' A2' → Sl w F H al (sl.set i (some sv')) (σ.set i (some v')) (A1 ++ A2' ++ A3)) ∧ (∀ x, Sl w F H al (sl.set i none) (σ.set i x) (A1 ++ A3))
  | _, _, _, _, _, .nil, e => by simp at e
  | _, _, _, 0, _, .non t, e => by simp at e
  | _, _, _, 0, sv, .cons (A := A) (B := B) s t, e => by
    simp at e; subst e
    exact ⟨_, [], A, B, rfl, by simp, s, fun sv' v' A2' s' => by simpa using Sl.cons s' t, fun x => by simpa using Sl.non t⟩
  | _, _, _, i + 1, sv, .non t, e => by
    obtain ⟨v, A1, A2, A3, h1, h2, h3, h4, h5⟩ := Sl.at (i := i) t (by simpa using e)
    exact ⟨v, A1, A2, A3, by simpa using h1, h2, h3, fun sv' v' A2' s' => by simpa using Sl.non (h4 sv' v' A2' s'), fun x => by simpa using Sl.non (h5 x)⟩
  | _, _, _, i + 1, sv, .cons (A := A) (B := B) s t, e => by
    obtain ⟨v, A1, A2, A3, h1, h2, h3, h4, h5⟩ := Sl.at (i := i) t (by simpa using e)
    exact ⟨v, A ++ A1, A2, A3, by simpa using h1, by simp [h2], h3, fun sv' v' A2' s' => by simpa using Sl.cons s (h4 sv' v' A2' s'), fun x => by simpa using Sl.cons s (h5 x)⟩
/-- an empty or forgotten slot is written -/
theorem Sl.put {al} : ∀ {sl σ A} {i : Nat}, Sl w F H al sl σ A → i < sl.length → ∃ A1 A2 A3, A = A1 ++ A2 ++ A3 ∧
      (∀ sv' v' A2', SVR w F H al v' sv' A2' → Sl w F H al (sl.set i (some sv')) (σ.set i (some v')) (A1 ++ A2' ++ A3)) ∧ (∀ x, Sl w F H al (sl.set i none) (σ.set i x) (A1 ++ A3))
  | _, _, _, _, .nil, e => by simp at e
  | _, _, _, 0, .non (A := A) t, e => ⟨[], [], A, by simp, fun sv' v' A2' s' => by simpa using Sl.cons s' t, fun x => by simpa using Sl.non t⟩
  | _, _, _, 0, .cons (A := A) (B := B) s t, e => ⟨[], A, B, by simp, fun sv' v' A2' s' => by simpa using Sl.cons s' t, fun x => by simpa using Sl.non t⟩
  | _, _, _, i + 1, .non t, e => by
    obtain ⟨A1, A2, A3, h2, h4, h5⟩ := Sl.put (i := i) t (by simpa using e)
    exact ⟨A1, A2, A3, h2, fun sv' v' A2' s' => by simpa using Sl.non (h4 sv' v' A2' s'), fun x => by simpa using Sl.non (h5 x)⟩
  | _, _, _, i + 1, .cons (A := A) (B := B) s t, e => by
    obtain ⟨A1, A2, A3, h2, h4, h5⟩ := Sl.put (i := i) t (by simpa using e)
    exact ⟨A ++ A1, A2, A3, by simp [h2], fun sv' v' A2' s' => by simpa using Sl.cons s (h4 sv' v' A2' s'), fun x => by simpa using Sl.cons s (h5 x)⟩

theorem Sl.putN {al} : ∀ {sl σ A} {i : Nat}, Sl w F H al sl σ A → sl[i]? = some none → ∃ A1 A3, A = A1 ++ A3 ∧
      ∀ sv' v' A2', SVR w F H al v' sv' A2' → Sl w F H al (sl.set i (some sv')) (σ.set i (some v')) (A1 ++ A2' ++ A3)
  | _, _, _, _, .nil, e => by simp at e
  | _, _, _, 0, .non (A := A) t, e => ⟨[], A, by simp, fun sv' v' A2' s' => by simpa using Sl.cons s' t⟩
  | _, _, _, 0, .cons s t, e => by simp at e
  | _, _, _, i + 1, .non (A := A) t, e => by
    obtain ⟨A1, A3, h2, h4⟩ := Sl.putN (i := i) t (by simpa using e)
    exact ⟨A1, A3, h2, fun sv' v' A2' s' => by simpa using Sl.non (h4 sv' v' A2' s')⟩
  | _, _, _, i + 1, .cons (A := A) (B := B) s t, e => by
    obtain ⟨A1, A3, h2, h4⟩ := Sl.putN (i := i) t (by simpa using e)
    exact ⟨A ++ A1, A3, by simp [h2], fun sv' v' A2' s' => by simpa using Sl.cons s (h4 sv' v' A2' s')⟩
theorem Sl.dropAt {al} : ∀ {sl σ A} (i : Nat), Sl w F H al sl σ A → ∃ A1 A2 A3, A = A1 ++ A2 ++ A3 ∧ (∀ sv v, sl[i]? = some (some sv) → σ[i]? = some (some v) → SVR w F H al v sv A2) ∧
      (∀ x, Sl w F H al (sl.set i none) (σ.set i x) (A1 ++ A3)) ∧ (sl[i]? = some none → A2 = [])
  | _, _, _, i, .nil => ⟨[], [], [], rfl, fun _ _ h => by simp at h, fun x => by simpa using Sl.nil, fun _ => rfl⟩
  | _, _, _, 0, .non (A := A) t => ⟨[], [], A, by simp, fun _ _ h => by simp at h, fun x => by simpa using Sl.non t, fun _ => rfl⟩
  | _, _, _, 0, .cons (A := A) (B := B) s t => ⟨[], A, B, by simp, fun _ _ h h2 => by simp at h h2; subst h h2; exact s, fun x => by simpa using Sl.non t, fun h => by simp at h⟩
  | _, _, _, i + 1, .non (A := A) t => by
    obtain ⟨A1, A2, A3, h1, h2, h3, h4⟩ := Sl.dropAt i t
    exact ⟨A1, A2, A3, h1, fun sv v e e2 => h2 sv v (by simpa using e) (by simpa using e2), fun x => by simpa using Sl.non (h3 x), fun e => h4 (by simpa using e)⟩
  | _, _, _, i + 1, .cons (A := A) (B := B) s t => by
    obtain ⟨A1, A2, A3, h1, h2, h3, h4⟩ := Sl.dropAt i t
    exact ⟨A ++ A1, A2, A3, by simp [h1], fun sv v e e2 => h2 sv v (by simpa using e) (by simpa using e2), fun x => by simpa using Sl.cons s (h3 x), fun e => h4 (by simpa using e)⟩

/-- the store's entries, at al; their addresses -/
inductive GR (w : World) (F : Addr → Prop) (H : Hp) : List GE → List Addr → List Addr → Prop
  | nil : GR w F H [] [] []
  | lst {d a g al B} : Own1 w F H (.ref a) d a → GR w F H g al B → GR w F H (.lst d :: g) (a :: al) (a :: B)
theorem GR.kp (k : Kp F F' H H') : ∀ {g al B}, (∀ a ∈ B, ∀ o, H a = some o → H' a = some o) → GR w F H g al B → GR w F' H' g al B
  | _, _, _, _, .nil => .nil
  | _, _, _, h, .lst o t => .lst (o.kp k (h _ (by simp))) (GR.kp k (fun a ha => h a (by simp [ha])) t)
theorem GR.there : ∀ {g al B}, GR w F H g al B → ∀ b ∈ B, ∃ x, H b = some x ∧ ∀ xs, x ≠ .tup xs
  | _, _, _, .nil, _, hb => by simp at hb
  | _, _, _, .lst o t, b, hb => by
    rcases List.mem_cons.mp hb with rfl | hb
    · exact o.there
    · exact GR.there t b hb
theorem GR.len : ∀ {g al B}, GR w F H g al B → g.length = al.length
  | _, _, _, .nil => rfl
  | _, _, _, .lst _ t => by simp [GR.len t]
theorem GR.at : ∀ {g al B} {n : Nat} {d : D}, GR w F H g al B → g[n]? = some (.lst d) → ∃ a, al[n]? = some a ∧ a ∈ B ∧ Own1 w F H (.ref a) d a
  | _, _, _, _, _, .nil, e => by simp at e
  | _, _, _, 0, _, .lst o t, e => by simp at e; subst e; exact ⟨_, rfl, by simp, o⟩
  | _, _, _, n + 1, _, .lst o t, e => by
    obtain ⟨a, h1, h2, h3⟩ := GR.at (n := n) t (by simpa using e)
    exact ⟨a, by simpa using h1, by simp [h2], h3⟩
theorem GR.app {d a} : ∀ {g al B}, GR w F H g al B → Own1 w F H (.ref a) d a → GR w F H (g ++ [.lst d]) (al ++ [a]) (B ++ [a])
  | _, _, _, .nil, o => .lst o .nil
  | _, _, _, .lst q t, o => .lst q (GR.app t o)
/-- an entry is changed -/
theorem GR.set (k : Kp F F H H') : ∀ {g al B} {n : Nat} {d d' : D} {a : Addr}, GR w F H g al B → B.Nodup → g[n]? = some (.lst d) → al[n]? = some a → (∀ b ∈ B, b ≠ a → ∀ o, H b = some o → H' b = some o) →
    Own1 w F H' (.ref a) d' a → GR w F H' (g.set n (.lst d')) al B
  | _, _, _, _, _, _, _, .nil, _, e, _, _, _ => by simp at e
  | _, _, _, 0, _, _, _, .lst o t, nd, e, e2, h, o' => by
    simp at e2; subst e2
    exact .lst o' (t.kp k fun b hb => h b (by simp [hb]) fun z => by subst z; exact (List.nodup_cons.mp nd).1 hb)
  | _, _, _, n + 1, _, _, a, .lst (a := b) o t, nd, e, e2, h, o' => by
    have ne : b ≠ a := by
      rintro rfl
      obtain ⟨c, h1, h2, _⟩ := GR.at (n := n) t (by simpa using e)
      have e3 : c = b := by
        have : (_ :: _ : List Addr)[n + 1]? = some b := e2
        rw [List.getElem?_cons_succ] at this
        rw [h1] at this; exact Option.some.inj this
      subst e3
      exact (List.nodup_cons.mp nd).1 h2
    exact .lst (o.kp k (h b (by simp) ne)) (GR.set k t (List.nodup_cons.mp nd).2 (by simpa using e) (by simpa using e2) (fun c hc => h c (by simp [hc])) o')
end

/-- where the machine stands: what stays, the slots' own addresses, the store's own, the store's places -/
structure Wd where
  F : Addr → Prop
  A : List Addr
  B : List Addr
  al : List Addr
/-- a def's entry -/
structure Fc where
  w : World
  H0 : Hp
  W0 : Wd
structure R (fc : Fc) (ρ : Rho) (W : Wd) (σ : L2.St) (H : Hp) : Prop where
  sl : Sl fc.w W.F H W.al ρ.sl σ W.A
  g : GR fc.w W.F H ρ.g W.al W.B
  nd : (W.A ++ W.B).Nodup
  nf : ∀ a ∈ W.A ++ W.B, ¬ W.F a
  ft : ∀ a, W.F a → ∃ o, H a = some o
  a0 : ∀ a ∈ W.A, fc.H0 a = none
  b0 : ∀ a ∈ W.B, a ∈ fc.W0.B ∨ fc.H0 a = none
  un : ∀ a o, fc.H0 a = some o → a ∉ fc.W0.B → H a = some o
  f0 : ∀ a, W.F a → fc.W0.F a ∨ fc.H0 a = none
  fm : ∀ a, fc.W0.F a → W.F a
  al : ∃ more, W.al = fc.W0.al ++ more
  gn : ∀ a, fc.H0 a ≠ none → H a ≠ none
/-- a step of an expression -/
structure Stp (W : Wd) (H : Hp) (W' : Wd) (H' : Hp) : Prop where
  fm : ∀ a, W.F a → W'.F a
  un : ∀ a o, H a = some o → a ∉ W.B → H' a = some o
  fr : ∀ a, W'.F a → W.F a ∨ a ∈ W.A ∨ H a = none
  a' : ∀ a ∈ W'.A, a ∈ W.A ∨ H a = none
  b' : ∀ a ∈ W'.B, a ∈ W.B ∨ H a = none
  al : ∃ more, W'.al = W.al ++ more
  gone : ∀ a, H a ≠ none → H' a ≠ none
theorem Stp.refl (W : Wd) (H : Hp) : Stp W H W H := ⟨fun _ h => h, fun _ _ h _ => h, fun _ h => .inl h, fun _ h => .inl h, fun _ h => .inl h, ⟨[], by simp⟩, fun _ h => h⟩
theorem Stp.trans {W W' W2 : Wd} {H H' H2 : Hp} (a : Stp W H W' H') (b : Stp W' H' W2 H2) : Stp W H W2 H2 := by
  have nn : ∀ x, H' x = none → H x = none := fun x h => by
    cases e : H x with
    | none => rfl
    | some o => exact absurd h (a.gone x (by rw [e]; simp))
  refine ⟨fun x h => b.fm x (a.fm x h), fun x o h hb => b.un x o (a.un x o h hb) fun z => ?_, fun x h => ?_, fun x h => ?_, fun x h => ?_, ?_, fun x h => b.gone x (a.gone x h)⟩
  · rcases a.b' x z with z | z
    · exact hb z
    · rw [z] at h; cases h
  · rcases b.fr x h with h | h | h
    · exact a.fr x h
    · rcases a.a' x h with h | h
      · exact .inr (.inl h)
      · exact .inr (.inr h)
    · exact .inr (.inr (nn x h))
  · rcases b.a' x h with h | h
    · exact a.a' x h
    · exact .inr (nn x h)
  · rcases b.b' x h with h | h
    · exact a.b' x h
    · exact .inr (nn x h)
  · obtain ⟨m, e⟩ := a.al
    obtain ⟨m2, e2⟩ := b.al
    exact ⟨m ++ m2, by rw [e2, e, List.append_assoc]⟩
section
variable {fc : Fc} {ρ : Rho} {W W' : Wd} {σ : L2.St} {H H' : Hp}
theorem R.thereA (r : R fc ρ W σ H) : ∀ b ∈ W.A, ∃ x, H b = some x ∧ ∀ xs, x ≠ .tup xs := r.sl.there
theorem R.thereB (r : R fc ρ W σ H) : ∀ b ∈ W.B, ∃ x, H b = some x ∧ ∀ xs, x ≠ .tup xs := r.g.there
theorem R.tup (r : R fc ρ W σ H) {a xs} (h : H a = some (.tup xs)) : a ∉ W.A ∧ a ∉ W.B := by
  refine ⟨fun z => ?_, fun z => ?_⟩
  · obtain ⟨x, e, n⟩ := r.thereA a z; rw [h] at e; exact n xs (Option.some.inj e).symm
  · obtain ⟨x, e, n⟩ := r.thereB a z; rw [h] at e; exact n xs (Option.some.inj e).symm
theorem Stp.kp (s : Stp W H W' H') (r : R fc ρ W σ H) : Kp W.F W'.F H H' :=
  ⟨s.fm, fun a o f h => s.un a o h fun z => r.nf a (by simp [z]) f, fun a xs h => s.un a _ h (r.tup h).2⟩
/-- things that stay where they are: new objects laid, new ones frozen -/
theorem R.h0 (r : R fc ρ W σ H) {a : Addr} (h : H a = none) : fc.H0 a = none := by
  cases e : fc.H0 a with
  | none => rfl
  | some o => exact absurd h (r.gn a (by rw [e]; simp))
/-- things that stay where they are: new objects laid, new ones frozen -/
theorem R.grow (r : R fc ρ W σ H) (s : Same H H') (F' : Addr → Prop) (fm : ∀ a, W.F a → F' a) (fn : ∀ a, F' a → W.F a ∨ (H a = none ∧ ∃ o, H' a = some o)) :
    R fc ρ { W with F := F' } σ H' ∧ Stp W H { W with F := F' } H' := by
  have k : Kp W.F F' H H' := ⟨fm, fun a o _ h => s a o h, fun a xs h => s a _ h⟩
  have nfr : ∀ a ∈ W.A ++ W.B, ¬ F' a := fun a ha f => by
    rcases fn a f with f | ⟨f, _⟩
    · exact r.nf a ha f
    · rcases List.mem_append.mp ha with ha | ha
      · obtain ⟨x, e, _⟩ := r.thereA a ha; rw [f] at e; cases e
      · obtain ⟨x, e, _⟩ := r.thereB a ha; rw [f] at e; cases e
  have sl := Sl.kp (more := []) k (fun a ha o h => s a o h) r.sl
  rw [List.append_nil] at sl
  have gone : ∀ a, H a ≠ none → H' a ≠ none := fun a h => by
    cases e : H a with
    | none => exact absurd e h
    | some o => rw [s a o e]; simp
  refine ⟨⟨sl, r.g.kp k fun a ha o h => s a o h, r.nd, nfr, fun a f => ?_, r.a0, r.b0, fun a o h hb => s a o (r.un a o h hb), fun a f => ?_, fun a f => fm a (r.fm a f), r.al, fun a h => gone a (r.gn a h)⟩,
    ⟨fm, fun a o h _ => s a o h, fun a f => ?_, fun _ h => .inl h, fun _ h => .inl h, ⟨[], by simp⟩, gone⟩⟩
  · rcases fn a f with f | ⟨_, o, e⟩
    · obtain ⟨o, e⟩ := r.ft a f; exact ⟨o, s a o e⟩
    · exact ⟨o, e⟩
  · rcases fn a f with f | ⟨f, _⟩
    · exact r.f0 a f
    · exact .inr (r.h0 f)
  · rcases fn a f with f | ⟨f, _⟩
    · exact .inl f
    · exact .inr (.inr f)
theorem R.same (r : R fc ρ W σ H) (s : Same H H') : R fc ρ W σ H' ∧ Stp W H W H' := r.grow s W.F (fun _ h => h) fun _ h => .inl h

/-- a slot is forgotten -/
theorem R.drop (r : R fc ρ W σ H) (i : Nat) (x : Option V) : ∃ A' A2, R fc (ρ.set i none) { W with A := A' } (σ.set i x) H ∧ (∀ a ∈ A', a ∈ W.A) ∧ (∀ a ∈ A2, a ∈ W.A ∧ a ∉ A' ∧ a ∉ W.B) ∧ A2.Nodup ∧
    (∀ sv v, ρ.sl[i]? = some (some sv) → σ[i]? = some (some v) → SVR fc.w W.F H W.al v sv A2) ∧ (∀ a, a ∈ W.A → a ∈ A' ∨ a ∈ A2) ∧ (ρ.sl[i]? = some none → A2 = []) := by
  obtain ⟨A1, A2, A3, h1, h2, h3, h4⟩ := Sl.dropAt i r.sl
  have nd := r.nd
  rw [h1] at nd
  have nd' : (A1 ++ A3 ++ W.B).Nodup := by
    rw [List.nodup_append, List.nodup_append, List.nodup_append] at nd
    rw [List.nodup_append, List.nodup_append]
    obtain ⟨⟨⟨n1, n2, n3⟩, n4, n5⟩, n6, n7⟩ := nd
    exact ⟨⟨n1, n4, fun a ha b hb => n5 a (by simp [ha]) b hb⟩, n6, fun a ha b hb => n7 a (by simp at ha ⊢; rcases ha with ha | ha <;> simp [ha]) b hb⟩
  have sub : ∀ a ∈ A1 ++ A3, a ∈ W.A := fun a ha => by rw [h1]; simp at ha ⊢; rcases ha with ha | ha <;> simp [ha]
  refine ⟨A1 ++ A3, A2, ⟨h3 x, r.g, nd', fun a ha => r.nf a ?_, r.ft, fun a ha => r.a0 a (sub a ha), r.b0, r.un, r.f0, r.fm, r.al, r.gn⟩, sub, fun a ha => ?_, ?_, h2, fun a ha => ?_, h4⟩
  · rcases List.mem_append.mp ha with ha | ha
    · exact List.mem_append_left _ (sub a ha)
    · exact List.mem_append_right _ ha
  · rw [List.nodup_append, List.nodup_append, List.nodup_append] at nd
    obtain ⟨⟨⟨n1, n2, n3⟩, n4, n5⟩, n6, n7⟩ := nd
    refine ⟨by rw [h1]; simp [ha], fun hb => ?_, fun hb => n7 a (by simp [ha]) a hb rfl⟩
    rcases List.mem_append.mp hb with hb | hb
    · exact n3 a hb a ha rfl
    · exact n5 a (by simp [ha]) a hb rfl
  · rw [List.nodup_append, List.nodup_append, List.nodup_append] at nd
    exact nd.1.1.2.1
  · rw [h1] at ha
    simp at ha ⊢
    rcases ha with ha | ha | ha <;> simp [ha]
/-- an empty slot is filled -/
theorem R.fill (r : R fc ρ W σ H) {i : Nat} (e : ρ.sl[i]? = some none) {sv : SV} {v : V} {A2 : List Addr} (s : SVR fc.w W.F H W.al v sv A2) (nd : A2.Nodup) (h : ∀ a ∈ A2, a ∉ W.A ∧ a ∉ W.B ∧ ¬ W.F a ∧ fc.H0 a = none) :
    ∃ A', R fc (ρ.set i (some sv)) { W with A := A' } (σ.set i (some v)) H ∧ (∀ a, a ∈ A' ↔ a ∈ W.A ∨ a ∈ A2) := by
  obtain ⟨A1, A3, h1, h2⟩ := Sl.putN r.sl e
  have n := r.nd
  have mem : ∀ a, a ∈ A1 ++ A2 ++ A3 ↔ a ∈ W.A ∨ a ∈ A2 := fun a => by
    rw [h1]; simp only [List.mem_append]
    constructor
    · rintro ((h | h) | h) <;> simp [h]
    · rintro ((h | h) | h) <;> simp [h]
  refine ⟨A1 ++ A2 ++ A3, ⟨h2 sv v A2 s, r.g, ?_, fun a ha => ?_, r.ft, fun a ha => ?_, r.b0, r.un, r.f0, r.fm, r.al, r.gn⟩, mem⟩
  · rw [h1] at n h
    rw [List.nodup_append, List.nodup_append] at n
    rw [List.nodup_append, List.nodup_append, List.nodup_append]
    obtain ⟨⟨n1, n2, n3⟩, n4, n5⟩ := n
    refine ⟨⟨⟨n1, nd, fun a ha b hb z => ?_⟩, n2, fun a ha b hb z => ?_⟩, n4, fun a ha b hb z => ?_⟩
    · subst z; exact (h a hb).1 (by simp [ha])
    · subst z
      rcases List.mem_append.mp ha with ha | ha
      · exact n3 a ha a hb rfl
      · exact (h a ha).1 (by simp [hb])
    · subst z
      simp only [List.mem_append] at ha
      rcases ha with (ha | ha) | ha
      · exact n5 a (by simp [ha]) a hb rfl
      · exact (h a ha).2.1 hb
      · exact n5 a (by simp [ha]) a hb rfl
  · rcases List.mem_append.mp ha with ha | ha
    · rcases (mem a).mp ha with ha | ha
      · exact r.nf a (List.mem_append_left _ ha)
      · exact (h a ha).2.2.1
    · exact r.nf a (List.mem_append_right _ ha)
  · rcases (mem a).mp ha with ha | ha
    · exact r.a0 a ha
    · exact (h a ha).2.2.2
/-- more is frozen -/
theorem R.more (r : R fc ρ W σ H) (F' : Addr → Prop) (fm : ∀ a, W.F a → F' a) (fn : ∀ a, F' a → W.F a ∨ (a ∉ W.A ∧ a ∉ W.B ∧ fc.H0 a = none ∧ ∃ o, H a = some o)) : R fc ρ { W with F := F' } σ H := by
  have k : Kp W.F F' H H := ⟨fm, fun _ _ _ h => h, fun _ _ h => h⟩
  have sl := Sl.kp (more := []) k (fun _ _ _ h => h) r.sl
  rw [List.append_nil] at sl
  refine ⟨sl, r.g.kp k fun _ _ _ h => h, r.nd, fun a ha f => ?_, fun a f => ?_, r.a0, r.b0, r.un, fun a f => ?_, fun a f => fm a (r.fm a f), r.al, r.gn⟩
  · rcases fn a f with f | ⟨f1, f2, _⟩
    · exact r.nf a ha f
    · exact (List.mem_append.mp ha).elim f1 f2
  · rcases fn a f with f | ⟨_, _, _, o, h⟩
    · exact r.ft a f
    · exact ⟨o, h⟩
  · rcases fn a f with f | ⟨_, _, h, _⟩
    · exact r.f0 a f
    · exact .inr h
theorem set_self {σ : L2.St} {i : Nat} {v : V} (h : σ[i]? = some (some v)) : σ.set i (some v) = σ := by
  obtain ⟨hl, he⟩ := List.getElem?_eq_some_iff.mp h
  rw [← he]; exact List.set_getElem_self hl
theorem Rho.set_set {r : Rho} {i : Nat} {a b : Option SV} : (r.set i a).set i b = r.set i b := by
  unfold Rho.set; simp
theorem set_none_at {r : Rho} {i : Nat} {x : Option SV} (h : i < r.sl.length) : (r.set i none).sl[i]? = some none := by
  unfold Rho.set; simp [h]
/-- own things are frozen: the slot holds data -/
theorem R.freeze {i : Nat} {sv : SV} {d : D} (r : R fc ρ W σ H) (e : ρ.sl[i]? = some (some sv)) (hs : sv = .own d ∨ sv = .own2 d) :
    ∃ v W', σ[i]? = some (some v) ∧ R fc (ρ.set i (some (.dat d))) W' σ H ∧ Stp W H W' H ∧ Den fc.w W'.F H v d := by
  obtain ⟨v, _, _, _, h1, _, _, _, _⟩ := Sl.at r.sl e
  obtain ⟨A', A2, r1, sub, ap, nd, s, cov, _⟩ := r.drop i (some v)
  have s := s sv v e h1
  rw [set_self h1] at r1
  have kp : Kp W.F (fun a => W.F a ∨ a ∈ A2) H H := ⟨fun _ h => .inl h, fun _ _ _ h => h, fun _ _ h => h⟩
  have dn : Den fc.w (fun a => W.F a ∨ a ∈ A2) H v d := by
    rcases hs with rfl | rfl
    · obtain ⟨a, rfl, o⟩ := s
      exact (o.kp kp fun _ h => h).fz (.inr (by simp))
    · exact (Own2.kp kp (fun _ _ _ h => h) s).fz fun a h => .inr h
  have r2 := r1.more (fun a => W.F a ∨ a ∈ A2) (fun _ h => .inl h) fun a f => f.elim .inl fun ha => .inr ⟨(ap a ha).2.1, (ap a ha).2.2, r.a0 a (ap a ha).1, by obtain ⟨o, h, _⟩ := r.thereA a (ap a ha).1; exact ⟨o, h⟩⟩
  have hl : i < ρ.sl.length := (List.getElem?_eq_some_iff.mp e).1
  obtain ⟨A3, r3, mem⟩ := r2.fill (i := i) (sv := .dat d) (v := v) (A2 := []) (set_none_at (x := none) hl) ⟨rfl, dn⟩ (by simp) (by simp)
  rw [Rho.set_set, set_self h1] at r3
  refine ⟨v, _, h1, r3, ⟨fun _ h => .inl h, fun _ _ h _ => h, fun a f => f.elim .inl fun h => .inr (.inl (ap a h).1), fun a ha => .inl (sub a ?_), fun _ h => .inl h, ⟨[], by simp⟩, fun _ h => h⟩, dn⟩
  simpa using (mem a).mp ha

/-- a new thing: data, or a fresh list or dict -/
def New (w : World) (F : Addr → Prop) (H H' : Hp) (v : V) (d : D) : Prop := Den w F H' v d ∨ ∃ p, H p = none ∧ Own1 w F H' v d p
/-- .. by an operation: what it makes afresh is nobody's -/
def NewO (o : Op) (w : World) (F : Addr → Prop) (H H' : Hp) (v : V) (d : D) : Prop := New w F H H' v d ∧ (o.fresh = true → isCont d = true → ∃ p, H p = none ∧ Own1 w F H' v d p)
/-- .. taken as data -/
theorem R.take (r : R fc ρ W σ H) (s : Same H H') {v d} (n : New fc.w W.F H H' v d) : ∃ W', R fc ρ W' σ H' ∧ Stp W H W' H' ∧ Den fc.w W'.F H' v d := by
  rcases n with n | ⟨p, hp, o⟩
  · obtain ⟨a, b⟩ := r.same s
    exact ⟨W, a, b, n⟩
  · obtain ⟨x, hx, _⟩ := o.there
    obtain ⟨a, b⟩ := r.grow s (fun a => W.F a ∨ a = p) (fun _ h => .inl h) fun a h => h.elim .inl fun e => .inr ⟨e ▸ hp, x, e ▸ hx⟩
    refine ⟨_, a, b, ?_⟩
    have k : Kp W.F (fun a => W.F a ∨ a = p) H' H' := ⟨fun _ h => .inl h, fun _ _ _ h => h, fun _ _ h => h⟩
    exact (o.kp k fun _ h => h).fz (.inr rfl)

/-- what an operand's value is -/
def OR (fc : Fc) (W : Wd) (H : Hp) (σ : L2.St) (v : V) : Opd → Prop
  | .d x => Den fc.w W.F H v x
  | .p i => σ[i]? = some (some v)
  | .g n => ∃ a, W.al[n]? = some a ∧ v = .ref a
  | .ex _ => False
theorem OR.stp {v o} (h : OR fc W H σ v o) (s : Stp W H W' H') (r : R fc ρ W σ H) : OR fc W' H' σ v o := by
  cases o with
  | d x => exact Den.kp (s.kp r) h
  | p i => exact h
  | g n =>
    obtain ⟨a, e, ev⟩ := h
    obtain ⟨m, e2⟩ := s.al
    exact ⟨a, by rw [e2, List.getElem?_append_left (List.getElem?_eq_some_iff.mp e).1]; exact e, ev⟩
  | ex c => exact h
/-- a thing at hand: data, or of one's own -/
def Cur (w : World) (F : Addr → Prop) (H : Hp) (v : V) (d : D) (b : Bool) : Prop := Den w F H v d ∨ (∃ a, Own1 w F H v d a) ∨ (b = true ∧ ∃ A, Own2 w F H v d A)
theorem Rho.at_some {r : Rho} {i : Nat} {v : SV} (h : r.at i = some v) : r.sl[i]? = some (some v) := by
  unfold Rho.at at h
  cases e : r.sl[i]? with
  | none => rw [e] at h; cases h
  | some x => rw [e] at h; cases x with
    | none => cases h
    | some y => cases h; rfl
theorem OR.cur {v o d b} (h : OR fc W H σ v o) (r : R fc ρ W σ H) (e : o.res ρ = some (d, b)) : Cur fc.w W.F H v d b := by
  cases o with
  | d x => simp only [Opd.res, Option.some.injEq, Prod.mk.injEq] at e; obtain ⟨rfl, rfl⟩ := e; exact .inl h
  | p i =>
    simp only [Opd.res] at e
    have h' : σ[i]? = some (some v) := h
    split at e
    · next z hz =>
      simp only [Option.some.injEq, Prod.mk.injEq] at e; obtain ⟨rfl, rfl⟩ := e
      obtain ⟨v', _, A2, _, h1, _, s, _⟩ := Sl.at r.sl (Rho.at_some hz)
      rw [h'] at h1; cases h1
      obtain ⟨a, _, o⟩ := s
      exact .inr (.inl ⟨a, o⟩)
    · next z hz =>
      simp only [Option.some.injEq, Prod.mk.injEq] at e; obtain ⟨rfl, rfl⟩ := e
      obtain ⟨v', _, A2, _, h1, _, s, _⟩ := Sl.at r.sl (Rho.at_some hz)
      rw [h'] at h1; cases h1
      obtain ⟨a, _, o⟩ := s
      exact .inr (.inl ⟨a, o⟩)
    · next z hz =>
      simp only [Option.some.injEq, Prod.mk.injEq] at e; obtain ⟨rfl, rfl⟩ := e
      obtain ⟨v', _, A2, _, h1, _, s, _⟩ := Sl.at r.sl (Rho.at_some hz)
      rw [h'] at h1; cases h1
      exact .inr (.inr ⟨rfl, A2, s⟩)
    · cases e
  | g n =>
    simp only [Opd.res] at e
    split at e
    · next z hz =>
      simp only [Option.some.injEq, Prod.mk.injEq] at e; obtain ⟨rfl, rfl⟩ := e
      obtain ⟨a, h1, _, o⟩ := GR.at r.g hz
      obtain ⟨a', h2, ev⟩ := h
      rw [h1] at h2; cases h2; subst ev
      exact .inr (.inl ⟨a, o⟩)
    · cases e
  | ex c => cases e
theorem Cur.mono {v d b c} (h : Cur fc.w W.F H v d b) (k : b = true → c = true) : Cur fc.w W.F H v d c := by
  rcases h with h | h | ⟨z, h⟩
  · exact .inl h
  · exact .inr (.inl h)
  · exact .inr (.inr ⟨k z, h⟩)
end

/-! ### readings by the library's word -/
section
variable {X : Cx} {pins : List (Addr × Obj)} {σ : L2.St} {H : Hp} {s : Shared} {w : World} {F : Addr → Prop}
theorem Inv.dictRaw {a : Addr} {es : DE} (I : Inv X pins σ H s) (h : H a = some (dO a es)) : s.heap.DictRaw a es.1 es.2 := (I.hok a _ h).1
mutual
theorem Den.reads (I : Inv X pins σ H s) : ∀ {v d u}, Den w F H v d → RelV v u → ∃ as, Reads s.heap u d as
  | _, _, _, .non, r => by cases r; exact ⟨_, .none⟩
  | _, _, _, .bl b, r => by cases r; exact ⟨_, .bool b⟩
  | _, _, _, .int i, r => by obtain ⟨t, rfl⟩ := r; exact ⟨_, .int i t⟩
  | _, _, _, .str x, r => by obtain ⟨t, rfl⟩ := r; exact ⟨_, .str x t⟩
  | _, _, _, .tup e ds, r => by
    cases r
    obtain ⟨_, its, vs, ⟨o, ho, hc, n, hd⟩⟩ := I.hok _ _ e
    obtain ⟨as, h⟩ := Dens.reads I ds vs
    exact ⟨_, .tuple ho hc hd h⟩
  | _, _, _, .lst _ e ds, r => by
    cases r
    obtain ⟨_, its, n, vs, ho⟩ := I.hok _ _ e
    obtain ⟨as, h⟩ := Dens.reads I ds vs
    exact ⟨_, .list ho rfl rfl h⟩
  | _, _, _, .dic _ e _ _ ds, r => by
    cases r
    obtain ⟨o, ho, hx, hd⟩ := Inv.dictRaw I e
    obtain ⟨as, bs, h1, h2⟩ := DEnts.reads I ds
    exact ⟨_, .dict ho hx.1 hd h1 h2⟩
theorem Dens.reads (I : Inv X pins σ H s) : ∀ {vs ds us}, Dens w F H vs ds → Vals vs us → ∃ as, ReadsAll s.heap us ds as
  | _, _, _, .nil, .nil => ⟨_, .nil⟩
  | _, _, _, .cons d t, .cons r q => by
    obtain ⟨as, h⟩ := Den.reads I d r
    obtain ⟨bs, h'⟩ := Dens.reads I t q
    exact ⟨_, .cons h h'⟩
theorem DEnts.reads (I : Inv X pins σ H s) : ∀ {es kvs}, DEnts w F H es kvs → ∃ as bs, ReadsAll s.heap (es.map (·.key)) (kvs.map (·.1)) as ∧ ReadsAll s.heap (es.map (·.val)) (kvs.map (·.2)) bs
  | _, _, .nil => ⟨_, _, .nil, .nil⟩
  | _, _, .cons a b c d _ t => by
    obtain ⟨as, h⟩ := Den.reads I c a
    obtain ⟨bs, h'⟩ := Den.reads I d b
    obtain ⟨as2, bs2, h2, h3⟩ := DEnts.reads I t
    exact ⟨_, _, .cons h h2, .cons h' h3⟩
end
theorem Own1.reads (I : Inv X pins σ H s) {v d a u} (o : Own1 w F H v d a) (r : RelV v u) : ∃ as, Reads s.heap u d as := by
  have k : Kp F (fun b => F b ∨ b = a) H H := ⟨fun _ h => .inl h, fun _ _ _ h => h, fun _ _ h => h⟩
  exact Den.reads I ((o.kp k fun _ h => h).fz (.inr rfl)) r
theorem Own2.reads (I : Inv X pins σ H s) {v d A u} (o : Own2 w F H v d A) (r : RelV v u) : ∃ as, Reads s.heap u d as := by
  have k : Kp F (fun b => F b ∨ b ∈ A) H H := ⟨fun _ h => .inl h, fun _ _ _ h => h, fun _ _ h => h⟩
  exact Den.reads I ((o.kp k fun _ _ _ h => h).fz fun a h => .inr h) r
theorem Cur.reads (I : Inv X pins σ H s) {v d b u} (o : Cur w F H v d b) (r : RelV v u) : ∃ as, Reads s.heap u d as := by
  rcases o with o | ⟨a, o⟩ | ⟨_, A, o⟩
  · exact o.reads I r
  · exact o.reads I r
  · exact o.reads I r
/-- a list at hand -/
theorem Cur.list {v ds b} (o : Cur w F H v (.list ds) b) : ∃ a vs, v = .ref a ∧ H a = some (.lst vs) ∧ vs.length = ds.length ∧ (b = false → Dens w F H vs ds) := by
  rcases o with o | ⟨a, e, ⟨vs, ds', e1, e2, r⟩ | ⟨_, _, e1, _⟩⟩ | ⟨hb, A, a, bs, e, _, ⟨vs, ds', e1, e2, r⟩ | ⟨_, _, e1, _⟩⟩
  · cases o with
    | lst f e r => exact ⟨_, _, rfl, e, r.len, fun _ => r⟩
  · cases e1; exact ⟨a, vs, e, e2, r.len, fun _ => r⟩
  · cases e1
  · cases e1
    have k : Kp F (fun b => F b ∨ b ∈ bs) H H := ⟨fun _ h => .inl h, fun _ _ _ h => h, fun _ _ h => h⟩
    exact ⟨a, vs, e, e2, ((r.kp k fun _ _ _ h => h).fz fun _ h => .inr h).len, fun z => by rw [z] at hb; cases hb⟩
  · cases e1
theorem Cur.tup {v ds b} (o : Cur w F H v (.tuple ds) b) : ∃ a vs, v = .ref a ∧ H a = some (.tup vs) ∧ Dens w F H vs ds := by
  rcases o with o | ⟨a, e, ⟨vs, ds', e1, e2, r⟩ | ⟨_, _, e1, _⟩⟩ | ⟨hb, A, a, bs, e, _, ⟨vs, ds', e1, e2, r⟩ | ⟨_, _, e1, _⟩⟩
  · cases o with
    | tup e r => exact ⟨_, _, rfl, e, r⟩
  · cases e1
  · cases e1
  · cases e1
  · cases e1
theorem Cur.int {v i b} (o : Cur w F H v (.int i) b) : v = .int i := by
  rcases o with o | ⟨a, e, ⟨vs, ds', e1, e2, r⟩ | ⟨_, _, e1, _⟩⟩ | ⟨hb, A, a, bs, e, _, ⟨vs, ds', e1, e2, r⟩ | ⟨_, _, e1, _⟩⟩
  · cases o with
    | int i => rfl
  all_goals cases e1
theorem Cur.bool {v i b} (o : Cur w F H v (.bool i) b) : v = .bl i := by
  rcases o with o | ⟨a, e, ⟨vs, ds', e1, e2, r⟩ | ⟨_, _, e1, _⟩⟩ | ⟨hb, A, a, bs, e, _, ⟨vs, ds', e1, e2, r⟩ | ⟨_, _, e1, _⟩⟩
  · cases o with
    | bl i => rfl
  all_goals cases e1
theorem DEnts.len : ∀ {es : List DictEntry} {kvs : List (D × D)}, DEnts w F H es kvs → es.length = kvs.length
  | _, _, .nil => rfl
  | _, _, .cons _ _ _ _ _ t => by simp [DEnts.len t]
theorem DEnts.keys : ∀ {es : List DictEntry} {kvs : List (D × D)}, DEnts w F H es kvs → ∃ ks, Vals ks (es.map (·.key)) ∧ Dens w F H ks (kvs.map (·.1))
  | _, _, .nil => ⟨[], .nil, .nil⟩
  | _, _, .cons a _ c _ _ t => by
    obtain ⟨ks, h1, h2⟩ := DEnts.keys t
    exact ⟨_ :: ks, .cons a h1, .cons c h2⟩
theorem DKids.keys : ∀ {es : List DictEntry} {kvs : List (D × D)} {bs : List Addr}, DKids w F H es kvs bs → ∃ ks, Vals ks (es.map (·.key)) ∧ Dens w F H ks (kvs.map (·.1))
  | _, _, _, .nil => ⟨[], .nil, .nil⟩
  | _, _, _, .cons a _ c _ _ t => by
    obtain ⟨ks, h1, h2⟩ := DKids.keys t
    exact ⟨_ :: ks, .cons a h1, .cons c h2⟩
/-- a dict's keys at hand -/
theorem Cur.keys {v kvs b} (o : Cur w F H v (.dict kvs) b) : ∃ a es ks, v = .ref a ∧ H a = some (dO a es) ∧ (a == sysModules) = false ∧ Wf kvs ∧ Vals ks (es.1.toList.map (·.key)) ∧ Dens w F H ks (kvs.map (·.1)) := by
  rcases o with o | ⟨a, e, ⟨vs, ds', e1, e2, r⟩ | ⟨es, _, e1, e2, z, wf, r⟩⟩ | ⟨hb, A, a, bs, e, _, ⟨vs, ds', e1, e2, r⟩ | ⟨es, _, e1, e2, z, wf, r⟩⟩
  · cases o with
    | dic f e z wf r => obtain ⟨ks, h1, h2⟩ := r.keys; exact ⟨_, _, ks, rfl, e, z, wf, h1, h2⟩
  · cases e1
  · cases e1; obtain ⟨ks, h1, h2⟩ := r.keys; exact ⟨a, es, ks, e, e2, z, wf, h1, h2⟩
  · cases e1
  · cases e1; obtain ⟨ks, h1, h2⟩ := r.keys; exact ⟨a, es, ks, e, e2, z, wf, h1, h2⟩
theorem Cur.dict {v kvs b} (o : Cur w F H v (.dict kvs) b) : ∃ a es, v = .ref a ∧ H a = some (dO a es) ∧ (a == sysModules) = false ∧ Wf kvs ∧ ∃ F', DEnts w F' H es.1.toList kvs ∧ (b = false → DEnts w F H es.1.toList kvs) := by
  rcases o with o | ⟨a, e, ⟨vs, ds', e1, e2, r⟩ | ⟨es, _, e1, e2, z, wf, r⟩⟩ | ⟨hb, A, a, bs, e, _, ⟨vs, ds', e1, e2, r⟩ | ⟨es, _, e1, e2, z, wf, r⟩⟩
  · cases o with
    | dic f e z wf r => exact ⟨_, _, rfl, e, z, wf, F, r, fun _ => r⟩
  · cases e1
  · cases e1; exact ⟨a, es, e, e2, z, wf, F, r, fun _ => r⟩
  · cases e1
  · cases e1
    have k : Kp F (fun b => F b ∨ b ∈ bs) H H := ⟨fun _ h => .inl h, fun _ _ _ h => h, fun _ _ h => h⟩
    exact ⟨a, es, e, e2, z, wf, _, (r.kp k fun _ _ _ h => h).fz fun _ h => .inr h, fun z => by rw [z] at hb; cases hb⟩
mutual
/-- flat data is data under any F -/
theorem flat_den {F' : Addr → Prop} : ∀ {v d}, Den w F H v d → flat d = true → Den w F' H v d
  | _, _, .non, _ => .non
  | _, _, .bl b, _ => .bl b
  | _, _, .int i, _ => .int i
  | _, _, .str x, _ => .str x
  | _, _, .tup e r, h => .tup e (flat_dens r (by simpa [flat] using h))
  | _, _, .lst _ _ _, h => by simp [flat] at h
  | _, _, .dic _ _ _ _ _, h => by simp [flat] at h
theorem flat_dens {F' : Addr → Prop} : ∀ {vs ds}, Dens w F H vs ds → flatAll ds = true → Dens w F' H vs ds
  | _, _, .nil, _ => .nil
  | _, _, .cons r t, h => by
    simp only [flatAll, Bool.and_eq_true] at h
    exact .cons (flat_den r h.1) (flat_dens t h.2)
end
end
end Mp
set_option Elab.async false
set_option linter.all false
set_option maxRecDepth 100000
set_option maxHeartbeats 4000000
/-! Mp2: readings of expressions -/
namespace Mp
open PySem PySem.Spec PyProof.Rows L2

/-- what is wished of an exception of the class c, at the slots -/
abbrev Wish := Nat → L2.St → Hp → Prop
section
variable (fc : Fc) (wE : Wish)
/-- m runs to an operand whose value v satisfies Q -/
def ExO (m : M Opd) (ρ : Rho) (W : Wd) (σ : L2.St) (H : Hp) (Q : VK) : Prop := match m ρ with
  | none => False
  | some (.exc c ρ') => ∀ W' H', Stp W H W' H' → R fc ρ' W' σ H' → wE c σ H'
  | some (.ok o ρ') => ∀ v W' H', Stp W H W' H' → R fc ρ' W' σ H' → OR fc W' H' σ v o → Q v H'
inductive ORs (fc : Fc) (W : Wd) (H : Hp) (σ : L2.St) : List V → List Opd → Prop
  | nil : ORs fc W H σ [] []
  | cons {v o vs os} : OR fc W H σ v o → ORs fc W H σ vs os → ORs fc W H σ (v :: vs) (o :: os)
def ExOs (m : M (List Opd)) (ρ : Rho) (W : Wd) (σ : L2.St) (H : Hp) (Q : List V → Hp → Prop) : Prop := match m ρ with
  | none => False
  | some (.exc c ρ') => ∀ W' H', Stp W H W' H' → R fc ρ' W' σ H' → wE c σ H'
  | some (.ok os ρ') => ∀ vs W' H', Stp W H W' H' → R fc ρ' W' σ H' → ORs fc W' H' σ vs os → Q vs H'
def tO (m : M Opd) : TE := fun σ H Q => ∃ ρ W, R fc ρ W σ H ∧ ExO fc wE m ρ W σ H Q
def tOs (m : M (List Opd)) : TA := fun σ H Q => ∃ ρ W, R fc ρ W σ H ∧ ExOs fc wE m ρ W σ H Q
end
section
variable {fc : Fc} {wE : Wish} {ρ : Rho} {W W' : Wd} {σ : L2.St} {H H' : Hp} {Q : VK}
theorem ORs.stp {vs os} (h : ORs fc W H σ vs os) (s : Stp W H W' H') (r : R fc ρ W σ H) : ORs fc W' H' σ vs os := by
  induction h with
  | nil => exact .nil
  | cons a _ ih => exact .cons (a.stp s r) ih

/-- an operand first, the rest behind it -/
theorem ExO.bnd {α : Type} {ma : M α} {f : α → M Opd} (h : ExO fc wE (ma.bnd f) ρ W σ H Q) :
    (ma ρ = none → False) ∧ (∀ c ρ', ma ρ = some (.exc c ρ') → ∀ W' H', Stp W H W' H' → R fc ρ' W' σ H' → wE c σ H') ∧
    (∀ a ρ', ma ρ = some (.ok a ρ') → ∀ W' H', Stp W H W' H' → R fc ρ' W' σ H' → ExO fc wE (f a) ρ' W' σ H' Q) := by
  unfold ExO M.bnd at h
  refine ⟨fun e => by rw [e] at h; exact h, fun c ρ' e => by rw [e] at h; exact h, fun a ρ' e W' H' s r => ?_⟩
  rw [e] at h
  unfold ExO
  cases e2 : f a ρ' with
  | none => simp only [e2] at h
  | some x =>
    cases x with
    | exc c ρ2 =>
      simp only [e2] at h
      intro W2 H2 s2 r2
      exact h W2 H2 (s.trans s2) r2
    | ok o ρ2 =>
      simp only [e2] at h
      intro v W2 H2 s2 r2 o2
      exact h v W2 H2 (s.trans s2) r2 o2
theorem ExOs.bnd {α : Type} {ma : M α} {f : α → M (List Opd)} {Q : List V → Hp → Prop} (h : ExOs fc wE (ma.bnd f) ρ W σ H Q) :
    (ma ρ = none → False) ∧ (∀ c ρ', ma ρ = some (.exc c ρ') → ∀ W' H', Stp W H W' H' → R fc ρ' W' σ H' → wE c σ H') ∧
    (∀ a ρ', ma ρ = some (.ok a ρ') → ∀ W' H', Stp W H W' H' → R fc ρ' W' σ H' → ExOs fc wE (f a) ρ' W' σ H' Q) := by
  unfold ExOs M.bnd at h
  refine ⟨fun e => by rw [e] at h; exact h, fun c ρ' e => by rw [e] at h; exact h, fun a ρ' e W' H' s r => ?_⟩
  rw [e] at h
  unfold ExOs
  cases e2 : f a ρ' with
  | none => simp only [e2] at h
  | some x =>
    cases x with
    | exc c ρ2 =>
      simp only [e2] at h
      intro W2 H2 s2 r2
      exact h W2 H2 (s.trans s2) r2
    | ok o ρ2 =>
      simp only [e2] at h
      intro v W2 H2 s2 r2 o2
      exact h v W2 H2 (s.trans s2) r2 o2
/-- from the reading of m to that of m's expression -/
theorem tO_of {m : M Opd} {P : VK} (r : R fc ρ W σ H) (h0 : m ρ = none → False) (hx : ∀ c ρ', m ρ = some (.exc c ρ') → ∀ W' H', Stp W H W' H' → R fc ρ' W' σ H' → wE c σ H')
    (hk : ∀ o ρ', m ρ = some (.ok o ρ') → ∀ v W' H', Stp W H W' H' → R fc ρ' W' σ H' → OR fc W' H' σ v o → P v H') : tO fc wE m σ H P := by
  refine ⟨ρ, W, r, ?_⟩
  unfold ExO
  cases e : m ρ with
  | none => exact (h0 e).elim
  | some x =>
    cases x with
    | exc c ρ' => exact hx c ρ' e
    | ok o ρ' => exact hk o ρ' e
theorem tOs_of {m : M (List Opd)} {P : List V → Hp → Prop} (r : R fc ρ W σ H) (h0 : m ρ = none → False) (hx : ∀ c ρ', m ρ = some (.exc c ρ') → ∀ W' H', Stp W H W' H' → R fc ρ' W' σ H' → wE c σ H')
    (hk : ∀ o ρ', m ρ = some (.ok o ρ') → ∀ v W' H', Stp W H W' H' → R fc ρ' W' σ H' → ORs fc W' H' σ v o → P v H') : tOs fc wE m σ H P := by
  refine ⟨ρ, W, r, ?_⟩
  unfold ExOs
  cases e : m ρ with
  | none => exact (h0 e).elim
  | some x =>
    cases x with
    | exc c ρ' => exact hx c ρ' e
    | ok o ρ' => exact hk o ρ' e
/-- m, then f: m's expression is evaluated first -/
theorem tO_bnd {m : M Opd} {f : Opd → M Opd} {P : VK} (r : R fc ρ W σ H) (h : ExO fc wE (m.bnd f) ρ W σ H Q)
    (hk : ∀ o ρ' v W' H', Stp W H W' H' → R fc ρ' W' σ H' → OR fc W' H' σ v o → ExO fc wE (f o) ρ' W' σ H' Q → P v H') : tO fc wE m σ H P := by
  obtain ⟨h0, hx, hk'⟩ := h.bnd
  exact tO_of r h0 hx fun o ρ' e v W' H' s r' o' => hk o ρ' v W' H' s r' o' (hk' o ρ' e W' H' s r')
theorem tOs_bnd {m : M (List Opd)} {f : List Opd → M Opd} {P : List V → Hp → Prop} (r : R fc ρ W σ H) (h : ExO fc wE (m.bnd f) ρ W σ H Q)
    (hk : ∀ o ρ' v W' H', Stp W H W' H' → R fc ρ' W' σ H' → ORs fc W' H' σ v o → ExO fc wE (f o) ρ' W' σ H' Q → P v H') : tOs fc wE m σ H P := by
  obtain ⟨h0, hx, hk'⟩ := h.bnd
  exact tOs_of r h0 hx fun o ρ' e v W' H' s r' o' => hk o ρ' v W' H' s r' o' (hk' o ρ' e W' H' s r')
theorem ExO.ok {o : Opd} {v : V} (h : ExO fc wE (M.ok o) ρ W σ H Q) (r : R fc ρ W σ H) (q : OR fc W H σ v o) : Q v H := h v W H (Stp.refl W H) r q
theorem ExO.get {f : Rho → Option Opd} (h : ExO fc wE (M.get f) ρ W σ H Q) : ∃ o, f ρ = some o ∧ ∀ v W' H', Stp W H W' H' → R fc ρ W' σ H' → OR fc W' H' σ v o → Q v H' := by
  unfold ExO M.get at h
  cases e : f ρ with
  | none => simp only [e] at h
  | some o => simp only [e] at h; exact ⟨o, rfl, h⟩
theorem ExO.getB {α : Type} {f : Rho → Option α} {g : α → M Opd} (h : ExO fc wE (M.bnd (M.get f) g) ρ W σ H Q) : ∃ a, f ρ = some a ∧ ExO fc wE (g a) ρ W σ H Q := by
  unfold ExO M.bnd M.get at h
  cases e : f ρ with
  | none => simp only [e] at h
  | some a => simp only [e] at h; exact ⟨a, rfl, h⟩

/-- things at hand -/
inductive Curs (w : World) (F : Addr → Prop) (H : Hp) : List V → List D → Bool → Prop
  | nil : Curs w F H [] [] false
  | cons {v d b vs ds c} : Cur w F H v d b → Curs w F H vs ds c → Curs w F H (v :: vs) (d :: ds) (b || c)
theorem ORs.curs : ∀ {vs os ds b}, ORs fc W H σ vs os → R fc ρ W σ H → resAll ρ os = some (ds, b) → Curs fc.w W.F H vs ds b
  | _, _, _, _, .nil, _, e => by simp only [resAll, Option.some.injEq, Prod.mk.injEq] at e; obtain ⟨rfl, rfl⟩ := e; exact .nil
  | _, _, _, _, .cons (o := o) (os := os) a t, r, e => by
    simp only [resAll] at e
    cases e1 : o.res ρ with
    | none => simp [e1] at e
    | some x =>
      cases e2 : resAll ρ os with
      | none => simp [e1, e2] at e
      | some y =>
        obtain ⟨z, b⟩ := x
        obtain ⟨zs, c⟩ := y
        simp only [e1, e2, Option.some.injEq, Prod.mk.injEq] at e
        obtain ⟨rfl, rfl⟩ := e
        exact .cons (a.cur r e1) (ORs.curs t r e2)
theorem Curs.two {w F vs d1 d2 b} (h : Curs w F H vs [d1, d2] b) : ∃ v1 v2, vs = [v1, v2] ∧ Cur w F H v1 d1 b ∧ Cur w F H v2 d2 b := by
  cases h with
  | cons a t =>
    cases t with
    | cons c t =>
      cases t
      refine ⟨_, _, rfl, ?_, ?_⟩
      · rcases a with a | a | ⟨e, a⟩
        · exact .inl a
        · exact .inr (.inl a)
        · exact .inr (.inr ⟨by simp [e], a⟩)
      · rcases c with c | c | ⟨e, c⟩
        · exact .inl c
        · exact .inr (.inl c)
        · exact .inr (.inr ⟨by simp [e], c⟩)
theorem Curs.one {w F vs d1 b} (h : Curs w F H vs [d1] b) : ∃ v1, vs = [v1] ∧ Cur w F H v1 d1 b := by
  cases h with
  | cons a t =>
    cases t
    refine ⟨_, rfl, ?_⟩
    rcases a with a | a | ⟨e, a⟩
    · exact .inl a
    · exact .inr (.inl a)
    · exact .inr (.inr ⟨by simp [e], a⟩)
theorem Curs.three {w F vs d1 d2 d3 b} (h : Curs w F H vs [d1, d2, d3] b) : ∃ v1 v2 v3, vs = [v1, v2, v3] ∧ Cur w F H v1 d1 b ∧ Cur w F H v2 d2 b ∧ Cur w F H v3 d3 b := by
  cases h with
  | cons a t =>
    cases t with
    | cons c t =>
      cases t with
      | cons e t =>
        cases t
        refine ⟨_, _, _, rfl, ?_, ?_, ?_⟩
        · rcases a with a | a | ⟨z, a⟩
          · exact .inl a
          · exact .inr (.inl a)
          · exact .inr (.inr ⟨by simp [z], a⟩)
        · rcases c with c | c | ⟨z, c⟩
          · exact .inl c
          · exact .inr (.inl c)
          · exact .inr (.inr ⟨by simp [z], c⟩)
        · rcases e with e | e | ⟨z, e⟩
          · exact .inl e
          · exact .inr (.inl e)
          · exact .inr (.inr ⟨by simp [z], e⟩)
theorem Curs.len : ∀ {w F vs ds b}, Curs w F H vs ds b → vs.length = ds.length
  | _, _, _, _, _, .nil => rfl
  | _, _, _, _, _, .cons _ t => by simp [Curs.len t]
end

/-- an operation upon values: what opF says of the data -/
def OpD (X : Cx) (act : List Value → Sem Value) (o : Op) : Prop := ∀ (pins : List (Addr × Obj)) (s : Shared) (σ : L2.St) (H : Hp) (w : World) (F : Addr → Prop) (vs : List V) (us : List Value) (ds : List D) (b : Bool) (d : D) (Q : VK),
  X.w = w → Inv X pins σ H s → Curs w F H vs ds b → Vals vs us → (b = true → flat d = true) → opF o ds = some d → (∀ z H', Same H H' → NewO o w F H H' z d → Q z H') → wpAny (model X.prog X.w) X.A (act us) (EP X pins σ Q) X.xe s
section
variable {X : Cx} {fc : Fc} {wE : Wish} {ρ : Rho} {W : Wd} {σ : L2.St} {H : Hp} {Q : VK} {pins : List (Addr × Obj)} {s : Shared}
/-- the last step of an operation -/
theorem op_fin {o : Op} {os : List Opd} {act : List Value → Sem Value} (ha : OpD X act o) (hw : X.w = fc.w) (I : Inv X pins σ H s) (r : R fc ρ W σ H) {vs us} (q : ORs fc W H σ vs os) (rv : Vals vs us)
    (h : ExO fc wE (.get (opFin o os)) ρ W σ H Q) :
    wpAny (model X.prog X.w) X.A (act us) (EP X pins σ Q) X.xe s := by
  obtain ⟨y, e, hq⟩ := h.get
  unfold opFin at e
  cases e1 : resAll ρ os with
  | none => simp [e1] at e
  | some x =>
    obtain ⟨ds, b⟩ := x
    simp only [e1] at e
    cases e2 : opF o ds with
    | none => simp [e2] at e
    | some d =>
      simp only [e2] at e
      by_cases hb : (b && !flat d) = true
      · simp [hb] at e
      · rw [if_neg hb, Option.some.injEq] at e
        subst e
        refine ha pins s σ H fc.w W.F vs us ds b d Q hw I (q.curs r e1) rv (fun z => by simpa [z] using hb) e2 fun z H' sm n => ?_
        obtain ⟨W', r', s', dn⟩ := r.take sm n.1
        exact hq z W' H' s' r' dn
end

end Mp
set_option Elab.async false
set_option linter.all false
set_option maxRecDepth 100000
set_option maxHeartbeats 4000000
/-! Mp3: operations upon data, by the library's rules -/
namespace Mp
open PySem PySem.Spec PyProof.Rows L2
theorem lim_eq : lim = sizeLine := by rw [sizeLine_eq]; rfl
theorem same_upd {H : Hp} {p : Addr} {o : HO} (hp : H p = none) : Same H (upd H p o) := fun b x h => by rw [upd_ne (ne_of_none h hp)]; exact h
theorem New.tup {w F H p vs ds} (hp : H p = none) (h : Dens w F H vs ds) : New w F H (upd H p (.tup vs)) (.ref p) (.tuple ds) :=
  .inl (.tup upd_same (h.kp (Kp.same (same_upd hp))))
theorem New.lst {w F H p vs ds} (hp : H p = none) (h : Dens w F H vs ds) : New w F H (upd H p (.lst vs)) (.ref p) (.list ds) :=
  .inr ⟨p, hp, rfl, .inl ⟨vs, ds, rfl, upd_same, h.kp (Kp.same (same_upd hp))⟩⟩
theorem New.den {w F H v d} (h : Den w F H v d) : New w F H H v d := .inl h
theorem NewO.tup {o w F H p vs ds} (hp : H p = none) (h : Dens w F H vs ds) : NewO o w F H (upd H p (.tup vs)) (.ref p) (.tuple ds) := ⟨New.tup hp h, fun _ z => by cases z⟩
theorem NewO.lst {o w F H p vs ds} (hp : H p = none) (h : Dens w F H vs ds) : NewO o w F H (upd H p (.lst vs)) (.ref p) (.list ds) :=
  ⟨New.lst hp h, fun _ _ => ⟨p, hp, rfl, .inl ⟨vs, ds, rfl, upd_same, h.kp (Kp.same (same_upd hp))⟩⟩⟩
theorem NewO.den {o w F H v d} (h : Den w F H v d) (hf : o.fresh = false ∨ isCont d = false := by first | exact .inl rfl | exact .inr rfl) : NewO o w F H H v d :=
  ⟨New.den h, fun a b => by rcases hf with z | z <;> simp_all⟩
def act1 (f : Value → Sem Value) : List Value → Sem Value
  | [u] => f u
  | _ => unsupported "x"
def act2 (f : Value → Value → Sem Value) : List Value → Sem Value
  | [u, v] => f u v
  | _ => unsupported "x"
def act3 (f : Value → Value → Value → Sem Value) : List Value → Sem Value
  | [u, v, x] => f u v x
  | _ => unsupported "x"
section
variable {X : Cx}
theorem od_2 {f : Value → Value → Sem Value} {o : Op} (n : ∀ ds d, opF o ds = some d → ∃ d1 d2, ds = [d1, d2])
    (h : ∀ (pins : List (Addr × Obj)) (s : Shared) (σ : L2.St) (H : Hp) (F : Addr → Prop) (x y : V) (u v : Value) (d1 d2 : D) (b : Bool) (d : D) (Q : VK), Inv X pins σ H s → Cur X.w F H x d1 b → Cur X.w F H y d2 b → RelV x u → RelV y v →
      (b = true → flat d = true) → opF o [d1, d2] = some d → (∀ z H', Same H H' → NewO o X.w F H H' z d → Q z H') → wpAny (model X.prog X.w) X.A (f u v) (EP X pins σ Q) X.xe s) : OpD X (act2 f) o := by
  intro pins s σ H w F vs us ds b d Q hw I c rv hb e k
  subst hw
  obtain ⟨d1, d2, rfl⟩ := n ds d e
  obtain ⟨v1, v2, rfl, c1, c2⟩ := c.two
  obtain ⟨u1, u2, rfl, r1, r2⟩ := vals2 rv
  exact h pins s σ H F v1 v2 u1 u2 d1 d2 b d Q I c1 c2 r1 r2 hb e k
theorem od_1 {f : Value → Sem Value} {o : Op} (n : ∀ ds d, opF o ds = some d → ∃ d1, ds = [d1])
    (h : ∀ (pins : List (Addr × Obj)) (s : Shared) (σ : L2.St) (H : Hp) (F : Addr → Prop) (x : V) (u : Value) (d1 : D) (b : Bool) (d : D) (Q : VK), Inv X pins σ H s → Cur X.w F H x d1 b → RelV x u →
      (b = true → flat d = true) → opF o [d1] = some d → (∀ z H', Same H H' → NewO o X.w F H H' z d → Q z H') → wpAny (model X.prog X.w) X.A (f u) (EP X pins σ Q) X.xe s) : OpD X (act1 f) o := by
  intro pins s σ H w F vs us ds b d Q hw I c rv hb e k
  subst hw
  obtain ⟨d1, rfl⟩ := n ds d e
  obtain ⟨v1, rfl, c1⟩ := c.one
  obtain ⟨u1, rfl, r1⟩ := vals1 rv
  exact h pins s σ H F v1 u1 d1 b d Q I c1 r1 hb e k
/-- the ints of an operation -/
theorem nf {w F H b} {xs : List D} {v} (h : Cur w F H v (.list xs) b) (hb : b = true → flat (.list xs) = true) : b = false := by
  cases b with
  | false => rfl
  | true => simp [flat] at hb
theorem notown2 {d : D} {b : Bool} (hb : b = true → flat d = true) (h : flat d = false) : b = false := by
  cases b with
  | false => rfl
  | true => rw [hb rfl] at h; cases h
theorem szTup_eq {xs : List D} {d : D} (h : szTup xs = some d) : d = .tuple xs ∧ xs.length ≤ sizeLine := by
  unfold szTup at h
  split at h
  · next q => cases h; exact ⟨rfl, lim_eq ▸ q⟩
  · cases h
theorem szLst_eq {xs : List D} {d : D} (h : szLst xs = some d) : d = .list xs ∧ xs.length ≤ sizeLine := by
  unfold szLst at h
  split at h
  · next q => cases h; exact ⟨rfl, lim_eq ▸ q⟩
  · cases h
theorem od_add : OpD X (act2 (binaryOp .Add)) .add := by
  refine od_2 (fun ds d e => ?_) fun pins s σ H F x y u v d1 d2 b d Q I c1 c2 r1 r2 hb e k => ?_
  · change f_add ds = some d at e; unfold f_add at e; split at e <;> first | exact ⟨_, _, rfl⟩ | cases e
  · change f_add [d1, d2] = some d at e
    unfold f_add at e
    split at e
    · rename_i i j he; cases he; cases e
      exact op_add pins s σ H x y u v Q I r1 r2 ⟨i, j, c1.int, c2.int, k _ _ (Same.refl H) (.den (.int _))⟩
    · rename_i xs ys he; cases he
      obtain ⟨rfl, hz⟩ := szTup_eq e
      obtain ⟨a, vs, rfl, e1, t1⟩ := c1.tup
      obtain ⟨a2, vs2, rfl, e2, t2⟩ := c2.tup
      have l1 := t1.len
      have l2 := t2.len
      refine op_catA pins s σ H _ _ u v Q I r1 r2 ⟨a, a2, vs, vs2, rfl, rfl, .of e1, .of e2, by rw [l1, l2, ← List.length_append]; exact hz, fun z => ?_, fun z z2 => ?_, fun z z2 p hp => ?_⟩
      · subst z; cases t1; exact k _ _ (Same.refl H) (.den (.tup e2 t2))
      · subst z2; cases t2; exact k _ _ (Same.refl H) (.den (.tup e1 (by simpa using t1)))
      · exact k _ _ (same_upd hp) (.tup hp (t1.app t2))
    · rename_i xs ys he; cases he
      obtain ⟨rfl, hz⟩ := szLst_eq e
      obtain rfl := notown2 hb (by simp [flat])
      obtain ⟨a, vs, rfl, e1, l1, t1⟩ := c1.list
      obtain ⟨a2, vs2, rfl, e2, l2, t2⟩ := c2.list
      exact op_cat pins s σ H _ _ u v Q I r1 r2 ⟨a, a2, vs, vs2, rfl, rfl, e1, e2, by rw [l1, l2, ← List.length_append]; exact hz, fun p hp => k _ _ (same_upd hp) (.lst hp ((t1 rfl).app (t2 rfl)))⟩
    · cases e
theorem od_sub : OpD X (act2 (binaryOp .Sub)) .sub := by
  refine od_2 (fun ds d e => ?_) fun pins s σ H F x y u v d1 d2 b d Q I c1 c2 r1 r2 hb e k => ?_
  · change f_sub ds = some d at e; unfold f_sub at e; split at e <;> first | exact ⟨_, _, rfl⟩ | cases e
  · change f_sub [d1, d2] = some d at e
    unfold f_sub at e
    split at e
    · rename_i i j he; cases he; cases e
      exact op_sub pins s σ H x y u v Q I r1 r2 ⟨i, j, c1.int, c2.int, k _ _ (Same.refl H) (.den (.int _))⟩
    · cases e
theorem od_mod : OpD X (act2 (binaryOp .Mod)) .mod := by
  refine od_2 (fun ds d e => ?_) fun pins s σ H F x y u v d1 d2 b d Q I c1 c2 r1 r2 hb e k => ?_
  · change f_mod ds = some d at e; unfold f_mod at e; split at e <;> first | exact ⟨_, _, rfl⟩ | cases e
  · change f_mod [d1, d2] = some d at e
    unfold f_mod at e
    split at e
    · rename_i i j he; cases he
      split at e
      · rename_i hj; cases e
        exact op_mod pins s σ H x y u v Q I r1 r2 ⟨i, j, c1.int, c2.int, hj, k _ _ (Same.refl H) (.den (.int _))⟩
      · cases e
    · cases e
theorem od_fdiv : OpD X (act2 (binaryOp .FloorDiv)) .fdiv := by
  refine od_2 (fun ds d e => ?_) fun pins s σ H F x y u v d1 d2 b d Q I c1 c2 r1 r2 hb e k => ?_
  · change f_fdiv ds = some d at e; unfold f_fdiv at e; split at e <;> first | exact ⟨_, _, rfl⟩ | cases e
  · change f_fdiv [d1, d2] = some d at e
    unfold f_fdiv at e
    split at e
    · rename_i i j he; cases he
      split at e
      · rename_i hj; cases e
        exact op_fdiv pins s σ H x y u v Q I r1 r2 ⟨i, j, c1.int, c2.int, hj, k _ _ (Same.refl H) (.den (.int _))⟩
      · cases e
    · cases e
theorem od_pow : OpD X (act2 (binaryOp .Pow)) .pow := by
  refine od_2 (fun ds d e => ?_) fun pins s σ H F x y u v d1 d2 b d Q I c1 c2 r1 r2 hb e k => ?_
  · change f_pow ds = some d at e; unfold f_pow at e; split at e <;> first | exact ⟨_, _, rfl⟩ | cases e
  · change f_pow [d1, d2] = some d at e
    unfold f_pow at e
    split at e
    · rename_i i j he; cases he
      split at e
      · rename_i hj; cases e
        exact op_pow pins s σ H x y u v Q I r1 r2 ⟨i, j, c1.int, c2.int, ⟨hj.1, by have := hj.2.1; omega, hj.2.2⟩, k _ _ (Same.refl H) (.den (.int _))⟩
      · cases e
    · cases e
theorem tuple_mul1 (l : Addr) (items : Array Value) (n : Nat) (dd : Option Addr) (sl : Array (Option Value)) (u : Tok) :
    Meets (Builtin.«tuple.__mul__» ⟨[.ref l, .int 1 u], []⟩) (fun _ R s => s.heap.get? l = some { cls := .type "tuple", dict := dd, data := .seq items n, slots := sl } ∧
      R (.ok (.ret (Value.ref l))) s) :=
  .of_wp fun prog w A R s h => by
    obtain ⟨hp, g, d, tk, os⟩ := s
    obtain ⟨hl, h⟩ := h
    have f1 := AutoSeq1.idx_int
    wp_walk using wpAny_loadPart' hl
    repeat (first
      | (refine wpAny_ite_true (by simp) ?_; wp_walk using wpAny_loadPart' hl)
      | (refine wpAny_ite_false (by simp) ?_; wp_walk using wpAny_loadPart' hl))
    exact ⟨_, rfl, h⟩
theorem tuple_mul0 (l : Addr) (items : Array Value) (n : Nat) (dd : Option Addr) (sl : Array (Option Value)) (u : Tok) (hne : items.isEmpty = false) :
    Meets (Builtin.«tuple.__mul__» ⟨[.ref l, .int 0 u], []⟩) (fun _ R s => s.heap.get? l = some { cls := .type "tuple", dict := dd, data := .seq items n, slots := sl } ∧
      R (.ok (.ret (Value.ref s.heap.objs.size))) { s with heap := s.heap.push { cls := .type "tuple", data := .seq #[] } }) :=
  .of_wp fun prog w A R s h => by
    obtain ⟨hp, g, d, tk, os⟩ := s
    obtain ⟨hl, h⟩ := h
    have f1 := AutoSeq1.idx_int
    wp_walk using wpAny_loadPart' hl
    repeat (first
      | (refine wpAny_ite_true (by simp; done) ?_; wp_walk using wpAny_loadPart' hl)
      | (refine wpAny_ite_false (by simp [hne]; done) ?_; wp_walk using wpAny_loadPart' hl))
    exact ⟨_, rfl, h⟩
theorem same_mul_bool : reflectedDiffers (.type "int") (.type "bool") "mul" = pure false := by
  unfold reflectedDiffers
  show (typeLookup (.type "bool") (dunderR "mul") >>= fun rb => typeLookup (.type "int") (dunderR "mul") >>= fun ra => pure (rb.isSome && rb != ra)) = pure false
  rw [typeLookup_type, typeLookup_type, builtinLookup_eq_fast]; kernel_rfl
theorem mul_int_bool {prog : Program} {w : World} {A : Around} {E : Value → Shared → Prop} {s : Shared} {a : Int} {t : Tok} {b : Bool} {Q : Value → Shared → Prop} (h : Q (.int (a * if b = true then (1 : Int) else 0) s.toks) { s with toks := s.toks + 1 }) : wpAny (model prog w) A (binaryOp .Mult (.int a t) (.bool b)) Q E s :=
  binaryOp_sub_gives (op := .Mult) (T := "int") (U := "bool") (by decide) (typeIs_int s a t) rfl F.fills_int_mul F.fills_bool_mul isSubtype_bool_int same_mul_bool F.slot_int_mul F.entry_int_mul (F.args_int_mul_2 _ _)
    (AutoIntG9.int___mul___int_bool_0 a t b) trivial h
theorem od_mul : OpD X (act2 (binaryOp .Mult)) .mul := by
  refine od_2 (fun ds d e => ?_) fun pins s σ H F x y u v d1 d2 b d Q I c1 c2 r1 r2 hb e k => ?_
  · change f_mul ds = some d at e; unfold f_mul at e; split at e <;> first | exact ⟨_, _, rfl⟩ | cases e
  · change f_mul [d1, d2] = some d at e
    unfold f_mul at e
    split at e
    · rename_i i j he; cases he
      split at e
      · rename_i hj; cases e
        have hc : CMul i j := by
          simp only [small, Bool.or_eq_true, Bool.and_eq_true, decide_eq_true_eq] at hj
          exact hj
        exact op_mul pins s σ H x y u v Q I r1 r2 ⟨i, j, c1.int, c2.int, hc, k _ _ (Same.refl H) (.den (.int _))⟩
      · cases e
    · rename_i i b2 he; cases he; cases e
      have h1 := c1.int
      have h2 := c2.bool
      subst h1 h2
      obtain ⟨t, rfl⟩ := r1
      cases r2
      exact mul_int_bool ⟨.int _, H, I.tok _, ⟨_, rfl⟩, k _ _ (Same.refl H) (.den (.int _))⟩
    · rename_i xs n he; cases he
      obtain ⟨a, vs, rfl, e1, t1⟩ := c1.tup
      have l1 := t1.len
      split at e
      · rename_i hj; cases e
        refine op_repT pins s σ H _ _ u v Q I r1 r2 ⟨a, n, vs, rfl, c2.int, .of e1, ?_, hj.1, hj.2.1, by rw [l1]; exact hj.2.2.1, fun p hp => k _ _ (same_upd hp) (.tup hp (t1.flat _))⟩
        rintro rfl
        cases t1
        simp at hj
      · split at e
        · rename_i hk1
          subst hk1
          cases e
          cases r1
          have := c2.int
          subst this
          obtain ⟨t, rfl⟩ := r2
          obtain ⟨its, rr, ⟨⟨cls, dd, data, sl⟩, ho, hc, n, hd⟩, hs⟩ := I.tuple (.of e1)
          simp only at hc hd
          subst hc hd
          exact wpAny_binaryOp_repeat_ref (T := "tuple") (U := "int") (by decide) ⟨_, ho, rfl⟩ (fun s' => typeIs_int s' 1 t) noFill_tuple_mul PySem.F.fills_int_mul PySem.F.slot_int_rmul repeat_tuple PySem.F.slot_int_index.lookup
            (call_meets PySem.F.slot_int_rmul (typeIs_int s 1 t) PySem.F.entry_int_rmul (PySem.F.args_int_rmul_2 _ _) (int_rmul_tuple 1 t a its.toArray n dd sl)
              ⟨ho, rfl, ⟨_, ho, rfl⟩, call_meets PySem.F.slot_tuple_mul ⟨_, ho, rfl⟩ PySem.F.entry_tuple_mul (PySem.F.args_tuple_mul_2 _ _) (tuple_mul1 a its.toArray n dd sl t) ⟨ho, .ref a, H, I, rfl, k _ _ (Same.refl H) (.den (.tup e1 t1))⟩⟩)
        · split at e
          · rename_i hk0
            obtain ⟨rfl, hne⟩ := hk0
            cases e
            cases r1
            have := c2.int
            subst this
            obtain ⟨t, rfl⟩ := r2
            obtain ⟨its, rr, ⟨⟨cls, dd, data, sl⟩, ho, hc, n, hd⟩, hs⟩ := I.tuple (.of e1)
            simp only at hc hd
            subst hc hd
            have hle := rr.length
            have hi : its.toArray.isEmpty = false := by
              cases its with
              | nil =>
                cases xs with
                | nil => cases hne
                | cons x xs => rw [l1] at hle; cases hle
              | cons x its => rfl
            exact wpAny_binaryOp_repeat_ref (T := "tuple") (U := "int") (by decide) ⟨_, ho, rfl⟩ (fun s' => typeIs_int s' 0 t) noFill_tuple_mul PySem.F.fills_int_mul PySem.F.slot_int_rmul repeat_tuple PySem.F.slot_int_index.lookup
              (call_meets PySem.F.slot_int_rmul (typeIs_int s 0 t) PySem.F.entry_int_rmul (PySem.F.args_int_rmul_2 _ _) (int_rmul_tuple 0 t a its.toArray n dd sl)
                ⟨ho, rfl, ⟨_, ho, rfl⟩, call_meets PySem.F.slot_tuple_mul ⟨_, ho, rfl⟩ PySem.F.entry_tuple_mul (PySem.F.args_tuple_mul_2 _ _) (tuple_mul0 a its.toArray n dd sl t hi) ⟨ho, .ref s.heap.objs.size, _, I.laid (t' := s.toks) (o := .tup []) (fun b ob q => Heap.get?_push_of_some _ q) (Nat.le_refl _) ⟨Nat.zero_le _, _, .nil, IsTup.new _ _⟩, rfl, k _ _ (same_upd (I.hok.fresh (Nat.le_refl _))) (.tup (I.hok.fresh (Nat.le_refl _)) .nil)⟩⟩)
          · cases e
    · rename_i xs n he; cases he
      split at e
      · rename_i hj; cases e
        obtain rfl := notown2 hb (by simp [flat])
        obtain ⟨a, vs, rfl, e1, l1, t1⟩ := c1.list
        simp only [mid, Bool.and_eq_true, decide_eq_true_eq] at hj
        refine op_rep pins s σ H _ _ u v Q I r1 r2 ⟨a, n, vs, rfl, c2.int, e1, by omega, by omega, ?_, fun p hp => k _ _ (same_upd hp) (.lst hp ((t1 rfl).flat _))⟩
        rw [l1, sizeLine_eq]; exact hj.2
      · cases e
    · cases e
theorem od_neg : OpD X (act1 (unaryOp .USub)) .neg := by
  refine od_1 (fun ds d e => ?_) fun pins s σ H F x u d1 b d Q I c1 r1 hb e k => ?_
  · change f_neg ds = some d at e; unfold f_neg at e; split at e <;> first | exact ⟨_, rfl⟩ | cases e
  · change f_neg [d1] = some d at e
    unfold f_neg at e
    split at e
    · rename_i i he; cases he; cases e
      exact un_neg pins s σ H x u Q I r1 ⟨i, c1.int, k _ _ (Same.refl H) (.den (.int _))⟩
    · cases e
theorem dep40 {A : Around} {n : Nat} (hu : A.units + 64 < cLine) (h : n ≤ 40) : A.units + n < cLine := by omega
theorem od_eq (hu : X.A.units + 64 < cLine) : OpD X (act2 (compareOp .Eq)) .eq := by
  refine od_2 (fun ds d e => ?_) fun pins s σ H F x y u v d1 d2 b d Q I c1 c2 r1 r2 hb e k => ?_
  · change f_eq ds = some d at e; unfold f_eq at e; split at e <;> first | exact ⟨_, _, rfl⟩ | cases e
  · change f_eq [d1, d2] = some d at e
    simp only [f_eq] at e
    split at e
    · rename_i hj; cases e
      simp only [minDep, Bool.and_eq_true, decide_eq_true_eq] at hj
      obtain ⟨as, h1⟩ := c1.reads I r1
      obtain ⟨bs, h2⟩ := c2.reads I r2
      exact PySem.SeqAt.eq_plain h1 h2 hj.1.1 hj.1.2 (dep40 hu hj.2) ⟨.bl (PyData.eqv d1 d2), H, I, rfl, k _ _ (Same.refl H) (.den (.bl _))⟩
    · cases e
theorem od_ne (hu : X.A.units + 64 < cLine) : OpD X (act2 (compareOp .NotEq)) .ne := by
  refine od_2 (fun ds d e => ?_) fun pins s σ H F x y u v d1 d2 b d Q I c1 c2 r1 r2 hb e k => ?_
  · change f_ne ds = some d at e; unfold f_ne at e; split at e <;> first | exact ⟨_, _, rfl⟩ | cases e
  · change f_ne [d1, d2] = some d at e
    simp only [f_ne] at e
    split at e
    · rename_i hj; cases e
      simp only [minDep, Bool.and_eq_true, decide_eq_true_eq] at hj
      obtain ⟨as, h1⟩ := c1.reads I r1
      obtain ⟨bs, h2⟩ := c2.reads I r2
      exact PySem.SeqAt.rcNe_plain h1 h2 hj.1.1 hj.1.2 (dep40 hu hj.2) _ _ _ _ ⟨.bl (!PyData.eqv d1 d2), H, I, rfl, k _ _ (Same.refl H) (.den (.bl _))⟩
    · cases e
theorem od_cmpI {op : CmpOp} {o : Op} {p : Int → Int → Bool} (hop : OpR X (compareOp op) (rI0 fun i j => .bl (p i j))) (ho : ∀ ds d, opF o ds = some d → (∃ i j, ds = [.int i, .int j] ∧ d = .bool (p i j)) ∨ ∃ xs ys, ds = [.tuple xs, .tuple ys])
    (ht : ∀ (pins : List (Addr × Obj)) (s : Shared) (σ : L2.St) (H : Hp) (F : Addr → Prop) (x y : V) (u v : Value) (xs ys : List D) (b : Bool) (d : D) (Q : VK), Inv X pins σ H s → Cur X.w F H x (.tuple xs) b → Cur X.w F H y (.tuple ys) b → RelV x u → RelV y v →
      opF o [.tuple xs, .tuple ys] = some d → (∀ z H', Same H H' → NewO o X.w F H H' z d → Q z H') → wpAny (model X.prog X.w) X.A (compareOp op u v) (EP X pins σ Q) X.xe s) : OpD X (act2 (compareOp op)) o := by
  refine od_2 (fun ds d e => ?_) fun pins s σ H F x y u v d1 d2 b d Q I c1 c2 r1 r2 hb e k => ?_
  · rcases ho ds d e with ⟨i, j, rfl, _⟩ | ⟨_, _, rfl⟩ <;> exact ⟨_, _, rfl⟩
  · rcases ho _ d e with ⟨i, j, he, rfl⟩ | ⟨xs, ys, he⟩
    · cases he
      exact hop pins s σ H x y u v Q I r1 r2 ⟨i, j, c1.int, c2.int, k _ _ (Same.refl H) (.den (.bl _))⟩
    · cases he
      exact ht pins s σ H F x y u v xs ys b d Q I c1 c2 r1 r2 e k
theorem od_le : OpD X (act2 (compareOp .LtE)) .le := by
  refine od_cmpI op_le (fun ds d e => ?_) fun pins s σ H F x y u v xs ys b d Q I c1 c2 r1 r2 e k => ?_
  · change f_le ds = some d at e; unfold f_le at e; split at e
    · cases e; exact .inl ⟨_, _, rfl, rfl⟩
    · cases e
  · cases e
theorem od_gt : OpD X (act2 (compareOp .Gt)) .gt := by
  refine od_cmpI op_gt (fun ds d e => ?_) fun pins s σ H F x y u v xs ys b d Q I c1 c2 r1 r2 e k => ?_
  · change f_gt ds = some d at e; unfold f_gt at e; split at e
    · cases e; exact .inl ⟨_, _, rfl, rfl⟩
    · cases e
  · cases e
theorem od_lt (hu : X.A.units + 64 < cLine) : OpD X (act2 (compareOp .Lt)) .lt := by
  refine od_cmpI op_lt (fun ds d e => ?_) fun pins s σ H F x y u v xs ys b d Q I c1 c2 r1 r2 e k => ?_
  · change f_lt ds = some d at e; unfold f_lt at e; split at e
    · cases e; exact .inl ⟨_, _, rfl, rfl⟩
    · exact .inr ⟨_, _, rfl⟩
    · cases e
  · change f_lt [PyData.tuple xs, PyData.tuple ys] = some d at e
    simp only [f_lt] at e
    split at e
    · rename_i hj; cases e
      simp only [minDep, Bool.and_eq_true, decide_eq_true_eq] at hj
      obtain ⟨as, h1⟩ := c1.reads I r1
      obtain ⟨bs, h2⟩ := c2.reads I r2
      exact PySem.W.rcLt_alike _ _ _ _ _ _ _ _ h1 h2 (by rw [PySem.W.alike]; exact hj.1) (by simp) (dep40 hu hj.2) _ _ _ _ ⟨.bl _, H, I, rfl, k _ _ (Same.refl H) (.den (.bl _))⟩
    · cases e
theorem od_ge : OpD X (act2 (compareOp .GtE)) .ge := by
  refine od_cmpI op_ge (fun ds d e => ?_) fun pins s σ H F x y u v xs ys b d Q I c1 c2 r1 r2 e k => ?_
  · change f_ge ds = some d at e; unfold f_ge at e; split at e
    · cases e; exact .inl ⟨_, _, rfl, rfl⟩
    · cases e
  · change f_ge [.tuple xs, .tuple ys] = some d at e
    simp [f_ge] at e
theorem dep41 {A : Around} {n : Nat} (hu : A.units + 64 < cLine) (h : n ≤ 40) : A.units + 1 + n < cLine := by omega
/-- x in d: a list, a tuple -/
theorem in_seq {w F} {pins : List (Addr × Obj)} {s : Shared} {σ : L2.St} {H : Hp} {x y : V} {u v : Value} {d1 d2 : D} {b q : Bool} {Q : Bool → Prop} (hu : X.A.units + 64 < cLine) (I : Inv X pins σ H s) (c1 : Cur w F H x d1 b) (c2 : Cur w F H y d2 b) (r1 : RelV x u) (r2 : RelV y v)
    (e : inD d1 d2 = some q) (nd : ∀ kvs, d2 ≠ .dict kvs) {E : Value → Shared → Prop} :
    (∀ P : Value → Shared → Prop, P (.bool q) s → wpAny (model X.prog X.w) X.A (compareOp .In u v) P E s) ∧ (∀ P : Value → Shared → Prop, P (.bool (!q)) s → wpAny (model X.prog X.w) X.A (compareOp .NotIn u v) P E s) := by
  obtain ⟨as, h1⟩ := c1.reads I r1
  obtain ⟨bs, h2⟩ := c2.reads I r2
  unfold inD at e
  split at e
  · split at e
    · rename_i hj; cases e
      simp only [Bool.and_eq_true, decide_eq_true_eq] at hj
      exact ⟨fun P h => PySem.SeqAt.in_list_data h2 h1 hj.1.2 hj.1.1 (dep41 hu hj.2) h, fun P h => PySem.SeqAt.notIn_list_data h2 h1 hj.1.2 hj.1.1 (dep41 hu hj.2) h⟩
    · cases e
  · split at e
    · rename_i hj; cases e
      simp only [Bool.and_eq_true, decide_eq_true_eq] at hj
      exact ⟨fun P h => PySem.SeqAt.in_tuple_data h2 h1 hj.1.2 hj.1.1 (dep41 hu hj.2) h, fun P h => PySem.SeqAt.notIn_tuple_data h2 h1 hj.1.2 hj.1.1 (dep41 hu hj.2) h⟩
    · cases e
  · exact absurd rfl (nd _)
  · cases e
/-- x in a dict: given later -/
def DictIn (X : Cx) : Prop := ∀ (pins : List (Addr × Obj)) (s : Shared) (σ : L2.St) (H : Hp) (F : Addr → Prop) (x y : V) (u v : Value) (d1 : D) (kvs : List (D × D)) (b q : Bool) (Q : VK), Inv X pins σ H s → Cur X.w F H x d1 b → Cur X.w F H y (.dict kvs) b → RelV x u → RelV y v →
  inD d1 (.dict kvs) = some q → (Q (.bl q) H → wpAny (model X.prog X.w) X.A (compareOp .In u v) (EP X pins σ Q) X.xe s) ∧ (Q (.bl (!q)) H → wpAny (model X.prog X.w) X.A (compareOp .NotIn u v) (EP X pins σ Q) X.xe s)
theorem od_in (hu : X.A.units + 64 < cLine) (hd : DictIn X) : OpD X (act2 (compareOp .In)) .isin := by
  refine od_2 (fun ds d e => ?_) fun pins s σ H F x y u v d1 d2 b d Q I c1 c2 r1 r2 hb e k => ?_
  · change f_isin ds = some d at e; unfold f_isin at e; split at e <;> first | exact ⟨_, _, rfl⟩ | cases e
  · change f_isin [d1, d2] = some d at e
    simp only [f_isin] at e
    cases e1 : inD d1 d2 with
    | none => rw [e1] at e; cases e
    | some q =>
      rw [e1] at e; cases e
      by_cases hk : ∃ kvs, d2 = .dict kvs
      · obtain ⟨kvs, rfl⟩ := hk
        exact (hd pins s σ H F x y u v d1 kvs b q Q I c1 c2 r1 r2 e1).1 (k _ _ (Same.refl H) (.den (.bl _)))
      · exact (in_seq (Q := fun _ => True) hu I c1 c2 r1 r2 e1 (fun kvs z => hk ⟨kvs, z⟩)).1 _ ⟨.bl q, H, I, rfl, k _ _ (Same.refl H) (.den (.bl _))⟩
theorem od_nin (hu : X.A.units + 64 < cLine) (hd : DictIn X) : OpD X (act2 (compareOp .NotIn)) .nin := by
  refine od_2 (fun ds d e => ?_) fun pins s σ H F x y u v d1 d2 b d Q I c1 c2 r1 r2 hb e k => ?_
  · change f_nin ds = some d at e; unfold f_nin at e; split at e <;> first | exact ⟨_, _, rfl⟩ | cases e
  · change f_nin [d1, d2] = some d at e
    simp only [f_nin] at e
    cases e1 : inD d1 d2 with
    | none => rw [e1] at e; cases e
    | some q =>
      rw [e1] at e; cases e
      by_cases hk : ∃ kvs, d2 = .dict kvs
      · obtain ⟨kvs, rfl⟩ := hk
        exact (hd pins s σ H F x y u v d1 kvs b q Q I c1 c2 r1 r2 e1).2 (k _ _ (Same.refl H) (.den (.bl _)))
      · exact (in_seq (Q := fun _ => True) hu I c1 c2 r1 r2 e1 (fun kvs z => hk ⟨kvs, z⟩)).2 _ ⟨.bl (!q), H, I, rfl, k _ _ (Same.refl H) (.den (.bl _))⟩
/-- a value's own form -/
theorem Cur.isC {w F H} {pins : List (Addr × Obj)} {s : Shared} {σ : L2.St} {v : V} {u : Value} {d : D} {b : Bool} (I : Inv X pins σ H s) (c : Cur w F H v d b) (r : RelV v u) :
    (u == Value.none) = isCD 0 d ∧ (∀ k : Bool, (u = Value.bool k ↔ d = .bool k) ∧ plainIs u (.bool k) = true) := by
  have hc : ∀ a : Addr, ∀ d : D, isCont d = true → (Value.ref a == Value.none) = isCD 0 d ∧ (∀ k : Bool, (Value.ref a = Value.bool k ↔ d = .bool k) ∧ plainIs (.ref a) (.bool k) = true) := fun a d h => by
    cases d <;> simp [isCont] at h <;> exact ⟨rfl, fun k => ⟨⟨fun z => (nomatch z), fun z => (nomatch z)⟩, rfl⟩⟩
  rcases c with c | ⟨a, rfl, ⟨_, _, rfl, _⟩ | ⟨_, _, rfl, _⟩⟩ | ⟨_, _, a, _, rfl, _, ⟨_, _, rfl, _⟩ | ⟨_, _, rfl, _⟩⟩
  · cases c with
    | non => cases r; exact ⟨rfl, fun k => ⟨⟨fun z => (nomatch z), fun z => (nomatch z)⟩, rfl⟩⟩
    | bl k => cases r; exact ⟨rfl, fun k' => ⟨⟨fun z => by cases z; rfl, fun z => by cases z; rfl⟩, rfl⟩⟩
    | int i => obtain ⟨t, rfl⟩ := r; exact ⟨rfl, fun k => ⟨⟨fun z => (nomatch z), fun z => (nomatch z)⟩, rfl⟩⟩
    | str x => obtain ⟨t, rfl⟩ := r; exact ⟨rfl, fun k => ⟨⟨fun z => (nomatch z), fun z => (nomatch z)⟩, rfl⟩⟩
    | tup _ _ => cases r; exact ⟨rfl, fun k => ⟨⟨fun z => (nomatch z), fun z => (nomatch z)⟩, rfl⟩⟩
    | lst _ _ _ => cases r; exact hc _ _ rfl
    | dic _ _ _ _ _ => cases r; exact hc _ _ rfl
  all_goals (cases r; exact hc _ _ rfl)
/-- x is None, True, False -/
def constV : Nat → Value
  | 0 => .none
  | 1 => .bool true
  | _ => .bool false
theorem isCD_eq {c : Nat} {d : D} : isCD c d = (match c, d with | 0, .none => true | 1, .bool true => true | 2, .bool false => true | _, _ => false) := rfl
theorem is_bool_gen {A : Around} {E Q : Value → Shared → Prop} {s : Shared} {u : Value} {k : Bool} (hp : plainIs u (.bool k) = true) (h : Q (.bool (u == .bool k)) s) : wpAny (model X.prog X.w) A (compareOp .Is u (.bool k)) Q E s := by
  by_cases e : u = .bool k
  · subst e; exact wpAny_is_self rfl (by simpa using h)
  · exact wpAny_is_other hp e (by rw [beq_eq_false_iff_ne.mpr e] at h; exact h)
theorem isnot_bool_gen {A : Around} {E Q : Value → Shared → Prop} {s : Shared} {u : Value} {k : Bool} (hp : plainIs u (.bool k) = true) (h : Q (.bool (!(u == .bool k))) s) : wpAny (model X.prog X.w) A (compareOp .IsNot u (.bool k)) Q E s := by
  by_cases e : u = .bool k
  · subst e; exact wpAny_isNot_self rfl (by simpa using h)
  · exact wpAny_isNot_other hp e (by rw [beq_eq_false_iff_ne.mpr e] at h; exact h)
theorem beq_bool_isC {u : Value} {d : D} {k : Bool} (h : u = Value.bool k ↔ d = .bool k) : (u == Value.bool k) = (match d with | .bool j => j == k | _ => false) := by
  by_cases e : u = .bool k
  · have := h.mp e; subst e this; simp
  · rw [beq_eq_false_iff_ne.mpr e]
    cases d with
    | bool j =>
      have : j ≠ k := fun z => e (h.mpr (by rw [z]))
      cases j <;> cases k <;> simp_all
    | _ => rfl
theorem od_isC {c : Nat} (hc : c ≤ 2) : OpD X (act1 fun u => compareOp .Is u (constV c)) (.isC c) := by
  refine od_1 (fun ds d e => ?_) fun pins s σ H F x u d1 b d Q I c1 r1 hb e k => ?_
  · change f_isC c ds = some d at e; unfold f_isC at e; split at e <;> first | exact ⟨_, rfl⟩ | cases e
  · change some (PyData.bool (isCD c d1)) = some d at e
    cases e
    obtain ⟨h0, h1⟩ := c1.isC I r1
    match c, hc with
    | 0, _ => exact is_none_gen ⟨.bl _, H, I, by rw [h0]; rfl, k _ _ (Same.refl H) (.den (.bl _))⟩
    | 1, _ =>
      refine is_bool_gen (h1 _).2 ⟨.bl (isCD 1 d1), H, I, ?_, k _ _ (Same.refl H) (.den (.bl _))⟩
      rw [beq_bool_isC (h1 true).1]
      cases d1 with
      | bool j => cases j <;> rfl
      | _ => rfl
    | 2, _ =>
      refine is_bool_gen (h1 _).2 ⟨.bl (isCD 2 d1), H, I, ?_, k _ _ (Same.refl H) (.den (.bl _))⟩
      rw [beq_bool_isC (h1 false).1]
      cases d1 with
      | bool j => cases j <;> rfl
      | _ => rfl
theorem od_isnC {c : Nat} (hc : c ≤ 2) : OpD X (act1 fun u => compareOp .IsNot u (constV c)) (.isnC c) := by
  refine od_1 (fun ds d e => ?_) fun pins s σ H F x u d1 b d Q I c1 r1 hb e k => ?_
  · change f_isnC c ds = some d at e; unfold f_isnC at e; split at e <;> first | exact ⟨_, rfl⟩ | cases e
  · change some (PyData.bool (!isCD c d1)) = some d at e
    cases e
    obtain ⟨h0, h1⟩ := c1.isC I r1
    match c, hc with
    | 0, _ => exact isnot_none_gen ⟨.bl _, H, I, by rw [h0]; rfl, k _ _ (Same.refl H) (.den (.bl _))⟩
    | 1, _ =>
      refine isnot_bool_gen (h1 _).2 ⟨.bl (!isCD 1 d1), H, I, ?_, k _ _ (Same.refl H) (.den (.bl _))⟩
      rw [beq_bool_isC (h1 true).1]
      cases d1 with
      | bool j => cases j <;> rfl
      | _ => rfl
    | 2, _ =>
      refine isnot_bool_gen (h1 _).2 ⟨.bl (!isCD 2 d1), H, I, ?_, k _ _ (Same.refl H) (.den (.bl _))⟩
      rw [beq_bool_isC (h1 false).1]
      cases d1 with
      | bool j => cases j <;> rfl
      | _ => rfl
/-! built-ins -/
theorem od_int : OpD X (act1 fun u => call (.type "int") [u]) .int := by
  refine od_1 (fun ds d e => ?_) fun pins s σ H F x u d1 b d Q I c1 r1 hb e k => ?_
  · change f_int ds = some d at e; unfold f_int at e; split at e <;> first | exact ⟨_, rfl⟩ | cases e
  · change f_int [d1] = some d at e
    unfold f_int at e
    split at e
    · rename_i i he; cases he; cases e
      exact call_int1 pins s σ H [x] [u] Q I (.cons r1 .nil) (.inl ⟨i, by rw [c1.int], k _ _ (Same.refl H) (.den (.int _))⟩)
    · rename_i i he; cases he; cases e
      exact call_int1 pins s σ H [x] [u] Q I (.cons r1 .nil) (.inr ⟨i, by rw [c1.bool], k _ _ (Same.refl H) (.den (.int _))⟩)
    · cases e
theorem od_abs : OpD X (act1 fun u => call (.builtin "abs") [u]) .abs := by
  refine od_1 (fun ds d e => ?_) fun pins s σ H F x u d1 b d Q I c1 r1 hb e k => ?_
  · change f_abs ds = some d at e; unfold f_abs at e; split at e <;> first | exact ⟨_, rfl⟩ | cases e
  · change f_abs [d1] = some d at e
    unfold f_abs at e
    split at e
    · rename_i i he; cases he; cases e
      exact call_abs pins s σ H [x] [u] Q I (.cons r1 .nil) ⟨i, by rw [c1.int], k _ _ (Same.refl H) (.den (.int _))⟩
    · cases e
theorem od_min2 (hc : X.calm = true) : OpD X (act2 fun u v => call (.builtin "min") [u, v]) .min2 := by
  refine od_2 (fun ds d e => ?_) fun pins s σ H F x y u v d1 d2 b d Q I c1 c2 r1 r2 hb e k => ?_
  · change f_min2 ds = some d at e; unfold f_min2 at e; split at e <;> first | exact ⟨_, _, rfl⟩ | cases e
  · change f_min2 [d1, d2] = some d at e
    unfold f_min2 at e
    split at e
    · rename_i i j he; cases he; cases e
      exact call_min2 hc pins s σ H [x, y] [u, v] Q I (.cons r1 (.cons r2 .nil)) ⟨i, j, by rw [c1.int, c2.int], k _ _ (Same.refl H) (.den (.int _))⟩
    · cases e
theorem od_max2 (hc : X.calm = true) : OpD X (act2 fun u v => call (.builtin "max") [u, v]) .max2 := by
  refine od_2 (fun ds d e => ?_) fun pins s σ H F x y u v d1 d2 b d Q I c1 c2 r1 r2 hb e k => ?_
  · change f_max2 ds = some d at e; unfold f_max2 at e; split at e <;> first | exact ⟨_, _, rfl⟩ | cases e
  · change f_max2 [d1, d2] = some d at e
    unfold f_max2 at e
    split at e
    · rename_i i j he; cases he; cases e
      exact call_max2 hc pins s σ H [x, y] [u, v] Q I (.cons r1 (.cons r2 .nil)) ⟨i, j, by rw [c1.int, c2.int], k _ _ (Same.refl H) (.den (.int _))⟩
    · cases e
/-- len of a dict, list of a dict: given later -/
def DictLen (X : Cx) : Prop := ∀ (pins : List (Addr × Obj)) (s : Shared) (σ : L2.St) (H : Hp) (F : Addr → Prop) (x : V) (u : Value) (kvs : List (D × D)) (b : Bool) (Q : VK), Inv X pins σ H s → Cur X.w F H x (.dict kvs) b → RelV x u → Q (.int kvs.length) H →
  wpAny (model X.prog X.w) X.A (call (.builtin "len") [u]) (EP X pins σ Q) X.xe s
def DictList (X : Cx) : Prop := ∀ (pins : List (Addr × Obj)) (s : Shared) (σ : L2.St) (H : Hp) (F : Addr → Prop) (x : V) (u : Value) (kvs : List (D × D)) (b : Bool) (Q : VK), Inv X pins σ H s → Cur X.w F H x (.dict kvs) b → RelV x u →
  (∀ z H', Same H H' → NewO .list X.w F H H' z (.list (kvs.map (·.1))) → Q z H') → wpAny (model X.prog X.w) X.A (call (.type "list") [u]) (EP X pins σ Q) X.xe s
theorem od_len (hd : DictLen X) : OpD X (act1 fun u => call (.builtin "len") [u]) .len := by
  refine od_1 (fun ds d e => ?_) fun pins s σ H F x u d1 b d Q I c1 r1 hb e k => ?_
  · change f_len ds = some d at e; unfold f_len at e; split at e <;> first | exact ⟨_, rfl⟩ | cases e
  · change f_len [d1] = some d at e
    unfold f_len at e
    split at e
    · rename_i xs he; cases he; cases e
      obtain ⟨a, vs, rfl, e1, t1⟩ := c1.tup
      exact call_len_seq pins s σ H _ [u] Q I (.cons r1 .nil) ⟨a, vs, rfl, .inr (.of e1), by rw [t1.len]; exact k _ _ (Same.refl H) (.den (.int _))⟩
    · rename_i xs he; cases he; cases e
      obtain ⟨a, vs, rfl, e1, l1, t1⟩ := c1.list
      exact call_len_seq pins s σ H _ [u] Q I (.cons r1 .nil) ⟨a, vs, rfl, .inl (.of e1), by rw [l1]; exact k _ _ (Same.refl H) (.den (.int _))⟩
    · rename_i xs he; cases he; cases e
      exact hd pins s σ H F x u xs b Q I c1 r1 (k _ _ (Same.refl H) (.den (.int _)))
    · cases e
theorem od_tuple : OpD X (act1 fun u => call (.type "tuple") [u]) .tuple := by
  refine od_1 (fun ds d e => ?_) fun pins s σ H F x u d1 b d Q I c1 r1 hb e k => ?_
  · change f_tuple ds = some d at e; unfold f_tuple at e; split at e <;> first | exact ⟨_, rfl⟩ | cases e
  · change f_tuple [d1] = some d at e
    unfold f_tuple at e
    split at e
    · rename_i xs he; cases he; cases e
      obtain ⟨a, vs, rfl, e1, l1, t1⟩ := c1.list
      cases b with
      | false => exact call_tuple_of pins s σ H _ [u] Q I (.cons r1 .nil) ⟨a, vs, rfl, .inl ⟨.of e1, fun l hl => k _ _ (same_upd hl) (.tup hl (t1 rfl))⟩⟩
      | true =>
        have hf : flatAll xs = true := by simpa [flat] using hb rfl
        obtain ⟨F', h⟩ : ∃ F', Dens X.w F' H vs xs := by
          rcases c1 with c1 | ⟨a', z, ⟨vs', ds', z1, z2, r⟩ | ⟨_, _, z1, _⟩⟩ | ⟨_, A, a', bs, z, _, ⟨vs', ds', z1, z2, r⟩ | ⟨_, _, z1, _⟩⟩
          · cases c1 with
            | lst f e2 r => rw [e1] at e2; cases e2; exact ⟨_, r⟩
          · cases z1; cases z; rw [e1] at z2; cases z2; exact ⟨_, r⟩
          · cases z1
          · cases z1; cases z; rw [e1] at z2; cases z2
            have kk : Kp F (fun b => F b ∨ b ∈ bs) H H := ⟨fun _ h => .inl h, fun _ _ _ h => h, fun _ _ h => h⟩
            exact ⟨_, (r.kp kk fun _ _ _ h => h).fz fun _ h => .inr h⟩
          · cases z1
        exact call_tuple_of pins s σ H _ [u] Q I (.cons r1 .nil) ⟨a, vs, rfl, .inl ⟨.of e1, fun l hl => k _ _ (same_upd hl) (.tup hl (flat_dens h hf))⟩⟩
    · rename_i xs he; cases he; cases e
      obtain ⟨a, vs, rfl, e1, t1⟩ := c1.tup
      exact call_tuple_of pins s σ H _ [u] Q I (.cons r1 .nil) ⟨a, vs, rfl, .inr ⟨.of e1, k _ _ (Same.refl H) (.den (.tup e1 t1))⟩⟩
    · cases e
theorem od_list (hd : DictList X) : OpD X (act1 fun u => call (.type "list") [u]) .list := by
  refine od_1 (fun ds d e => ?_) fun pins s σ H F x u d1 b d Q I c1 r1 hb e k => ?_
  · change f_list ds = some d at e; unfold f_list at e; split at e <;> first | exact ⟨_, rfl⟩ | cases e
  · change f_list [d1] = some d at e
    unfold f_list at e
    split at e
    · rename_i xs he; cases he; cases e
      obtain rfl := notown2 hb (by simp [flat])
      obtain ⟨a, vs, rfl, e1, l1, t1⟩ := c1.list
      exact call_list_of pins s σ H _ [u] Q I (.cons r1 .nil) ⟨a, vs, rfl, .inl (.of e1), fun l hl => k _ _ (same_upd hl) (.lst hl (t1 rfl))⟩
    · rename_i xs he; cases he; cases e
      obtain ⟨a, vs, rfl, e1, t1⟩ := c1.tup
      exact call_list_of pins s σ H _ [u] Q I (.cons r1 .nil) ⟨a, vs, rfl, .inr (.of e1), fun l hl => k _ _ (same_upd hl) (.lst hl t1)⟩
    · rename_i xs he; cases he; cases e
      exact hd pins s σ H F x u xs b Q I c1 r1 k
    · cases e
theorem od_isa {t : String} (ht : t ∈ ["int", "bool", "tuple", "list", "str"]) : OpD X (act1 fun u => call (.builtin "isinstance") [u, .type t]) (.isa t) := by
  refine od_1 (fun ds d e => ?_) fun pins s σ H F x u d1 b d Q I c1 r1 hb e k => ?_
  · change f_isa t ds = some d at e; unfold f_isa at e; split at e <;> first | exact ⟨_, rfl⟩ | cases e
  · change some (PyData.bool (isaD t d1)) = some d at e
    cases e
    obtain ⟨as, h⟩ := c1.reads I r1
    have fin : ∀ tk, EP X pins σ Q (.bool (isaD t d1)) { s with toks := tk } := fun tk => ⟨.bl _, H, I.tok tk, rfl, k _ _ (Same.refl H) (.den (.bl _))⟩
    simp only [List.mem_cons, List.mem_nil_iff, or_false] at ht
    rcases ht with rfl | rfl | rfl | rfl | rfl
    · exact PySem.W.isinstance_int_data h fun tk _ => fin tk
    · exact PySem.W.isinstance_bool_data h fun tk _ => fin tk
    · exact PySem.W.isinstance_tuple_data h fun tk _ => fin tk
    · exact PySem.W.isinstance_list_data h fun tk _ => fin tk
    · exact PySem.W.isinstance_str_data h fun tk _ => fin tk
theorem Curs.den {w F H} : ∀ {vs ds b}, Curs w F H vs ds b → (∀ d ∈ ds, isCont d = false) → Dens w F H vs ds
  | _, _, _, .nil, _ => .nil
  | _, _, _, .cons (d := d) a t, h => by
    refine .cons ?_ (Curs.den t fun d hd => h d (by simp [hd]))
    have hd := h d (by simp)
    rcases a with a | ⟨_, _, ⟨_, _, rfl, _⟩ | ⟨_, _, rfl, _⟩⟩ | ⟨_, _, _, _, _, _, ⟨_, _, rfl, _⟩ | ⟨_, _, rfl, _⟩⟩
    · exact a
    all_goals simp [isCont] at hd
end
end Mp
set_option Elab.async false
set_option linter.all false
set_option maxRecDepth 100000
set_option maxHeartbeats 4000000
/-! Mp4: more operations: items, sorts, texts, places -/
namespace Mp
open PySem PySem.Spec PyProof.Rows L2
theorem Cur.dens {w F H v ds} (o : Cur w F H v (.list ds) false) : ∃ a vs, v = .ref a ∧ H a = some (.lst vs) ∧ Dens w F H vs ds := by
  obtain ⟨a, vs, e, h, _, t⟩ := o.list
  exact ⟨a, vs, e, h, t rfl⟩
/-- a list at hand as the library has it -/
theorem Cur.listR {X : Cx} {pins : List (Addr × Obj)} {s : Shared} {σ : L2.St} {H : Hp} {w F v ds b u} (I : Inv X pins σ H s) (o : Cur w F H v (.list ds) b) (r : RelV v u) :
    ∃ a its n as, u = .ref a ∧ s.heap.get? a = some { cls := .type "list", data := .seq its n } ∧ ReadsAll s.heap its.toList ds as ∧ its.size = ds.length ∧ its.size ≤ sizeLine := by
  obtain ⟨a, vs, rfl, e, l, _⟩ := o.list
  cases r
  obtain ⟨as, h⟩ := o.reads I (u := .ref a) rfl
  cases h with
  | list ho hc hd h =>
    obtain ⟨z, its, n, rv, ho'⟩ := I.hok _ _ e
    rw [ho'] at ho
    cases ho
    injection hd with hd1 hd2
    subst hd1
    have hl := rv.length
    refine ⟨a, _, _, _, rfl, ho', h, ?_, ?_⟩
    · rw [List.size_toArray]; omega
    · rw [List.size_toArray]; omega
section
variable {X : Cx}
theorem od_idx {a b : Expr} (hs : PlainIx b) : OpD X (act2 (subscriptTail a b)) .idx := by
  refine od_2 (fun ds d e => ?_) fun pins s σ H F x y u v d1 d2 c d Q I c1 c2 r1 r2 hb e k => ?_
  · change f_idx ds = some d at e; unfold f_idx at e; split at e <;> first | exact ⟨_, _, rfl⟩ | cases e
  · change f_idx [d1, d2] = some d at e
    unfold f_idx at e
    split at e
    · rename_i xs i he; cases he
      obtain ⟨p, vs, rfl, e1, t1⟩ := c1.tup
      unfold atD L2.atI at e
      cases hn : L2.ixN xs.length i with
      | none => rw [hn] at e; cases e
      | some j =>
        rw [hn] at e
        obtain ⟨z, hz, dz⟩ := t1.get (i := j) (d := d) e
        exact ix_tup a b pins s σ H _ _ u v Q I r1 r2 ⟨p, vs, i, z, rfl, c2.int, .of e1, by unfold L2.atI; rw [t1.len, hn]; exact hz, k _ _ (Same.refl H) (.den dz)⟩ (hs _ _)
    · rename_i xs i he; cases he
      unfold atD L2.atI at e
      cases hn : L2.ixN xs.length i with
      | none => rw [hn] at e; cases e
      | some j =>
        rw [hn] at e
        have e' : xs[j]? = some d := e
        obtain ⟨p, vs, rfl, e1, l1, t1⟩ := c1.list
        have fin : ∀ z, vs[j]? = some z → Den X.w F H z d → wpAny (model X.prog X.w) X.A (subscriptTail a b u v) (EP X pins σ Q) X.xe s := fun z hz dz =>
          ix_list a b pins s σ H _ _ u v Q I r1 r2 ⟨p, vs, i, z, rfl, c2.int, .of e1, by unfold L2.atI; rw [l1, hn]; exact hz, k _ _ (Same.refl H) (.den dz)⟩ (hs _ _)
        cases c with
        | false =>
          obtain ⟨z, hz, dz⟩ := (t1 rfl).get (i := j) (d := d) e'
          exact fin z hz dz
        | true =>
          have hf := hb rfl
          rcases c1 with c1 | ⟨a', z, ⟨vs', ds', z1, z2, r⟩ | ⟨_, _, z1, _⟩⟩ | ⟨_, A, a', bs, z, _, ⟨vs', ds', z1, z2, r⟩ | ⟨_, _, z1, _⟩⟩
          · cases c1 with
            | lst f e2 r =>
              rw [e1] at e2; cases e2
              obtain ⟨z, hz, dz⟩ := r.get (i := j) (d := d) e'
              exact fin z hz dz
          · cases z1; cases z; rw [e1] at z2; cases z2
            obtain ⟨z, hz, dz⟩ := r.get (i := j) (d := d) e'
            exact fin z hz dz
          · cases z1
          · cases z1; cases z; rw [e1] at z2; cases z2
            have kk : Kp F (fun b => F b ∨ b ∈ bs) H H := ⟨fun _ h => .inl h, fun _ _ _ h => h, fun _ _ h => h⟩
            obtain ⟨z, hz, dz⟩ := ((r.kp kk fun _ _ _ h => h).fz fun _ h => .inr h).get (i := j) (d := d) e'
            exact fin z hz (flat_den dz hf)
          · cases z1
    · simp at e
    · cases e
/-- sorted's relation -/
theorem each_dens {w F H} : ∀ {vs : List V} {ds : List D} {us : List Value}, Dens w F H vs ds → Vals vs us → PySem.W.EachIs (fun (u : Value) (d : D) => ∃ v, RelV v u ∧ Den w F H v d) us ds
  | _, _, _, .nil, .nil => .nil
  | _, _, _, .cons d t, .cons r q => .cons ⟨_, r, d⟩ (each_dens t q)
theorem dens_each {w F H} : ∀ {ds : List D} {us : List Value}, PySem.W.EachIs (fun (u : Value) (d : D) => ∃ v, RelV v u ∧ Den w F H v d) us ds → ∃ vs, Dens w F H vs ds ∧ Vals vs us
  | _, _, .nil => ⟨[], .nil, .nil⟩
  | _, _, .cons ⟨v, r, d⟩ t => by
    obtain ⟨vs, a, b⟩ := dens_each t
    exact ⟨v :: vs, .cons d a, .cons r b⟩
theorem alikeB_all {ds : List D} (h : alikeB ds = true) : PySem.W.AllAlike ds := fun d hd e he => by
  unfold alikeB at h
  exact List.all_eq_true.mp (List.all_eq_true.mp h d hd) e he
theorem sortB_all {ds : List D} (h : sortB ds = true) : PySem.W.Sortable ds := by
  unfold sortB at h
  rw [Bool.or_eq_true] at h
  rcases h with h | h
  · refine .inl fun d hd => ?_
    have := List.all_eq_true.mp h d hd
    cases d with
    | tuple xs => cases xs with
      | nil => cases this
      | cons x r => exact ⟨x, r, rfl⟩
    | _ => cases this
  · refine .inr fun d hd => ?_
    have := List.all_eq_true.mp h d hd
    cases d with
    | int i => exact ⟨fun z => (nomatch z), fun xs z => (nomatch z)⟩
    | str i => exact ⟨fun z => (nomatch z), fun xs z => (nomatch z)⟩
    | _ => cases this
theorem od_srt (hu : X.A.units + 64 < cLine) : OpD X (act1 fun u => call (.builtin "sorted") [u]) .srt := by
  refine od_1 (fun ds d e => ?_) fun pins s σ H F x u d1 b d Q I c1 r1 hb e k => ?_
  · change f_srt ds = some d at e; unfold f_srt at e; split at e <;> first | exact ⟨_, rfl⟩ | cases e
  · change f_srt [d1] = some d at e
    unfold f_srt at e
    split at e
    · rename_i xs he; cases he
      split at e
      · rename_i hj; cases e
        simp only [Bool.and_eq_true] at hj
        obtain rfl := notown2 hb (by simp [flat])
        obtain ⟨a, vs, rfl, e1, t1⟩ := c1.dens
        cases r1
        obtain ⟨z, its, n, rv, ho⟩ := I.hok _ _ e1
        have hL : xs.length ≤ sizeLine := by rw [← t1.len]; exact z
        have er := each_dens t1 rv
        refine PySem.W.sorted_data (β := D) (enc := id) (l := a) (vs := its) (bs := xs) (R := fun u d => ∃ v, RelV v u ∧ Den X.w F H v d) ⟨_, ho, rfl, n, rfl⟩ er (er.mono fun u d ⟨v, r, dn⟩ => dn.reads I r)
          (by rw [List.map_id]; exact alikeB_all hj.1.1) (by rw [List.map_id]; exact sortB_all hj.1.2) hL (fun d hd => ?_) fun out hlen hout => ?_
        · have := of_decide_eq_true (List.all_eq_true.mp hj.2 d hd)
          show _ + 2 + d.depth < _
          omega
        · obtain ⟨ws, dw, rw'⟩ := dens_each hout
          have old : ∀ b o, s.heap.get? b = some o → (sortedAll s.heap its out.toArray).get? b = some o := fun b o h => sortedAll_old h
          obtain ⟨e', hat⟩ := sortedAll_at s.heap its out.toArray
          have hp : H (s.heap.objs.size + 1) = none := I.hok.fresh (Nat.le_succ _)
          have J := I.laid (o := .lst ws) (t' := s.toks) old (Nat.le_succ s.heap.objs.size) ⟨by rw [dw.len, List.length_mergeSort]; exact hL, out, e', rw', hat⟩
          exact ⟨.ref (s.heap.objs.size + 1), _, J, rfl, k _ _ (same_upd hp) (.lst hp dw)⟩
      · cases e
    · cases e
theorem hasDict_of_plain : ∀ d : D, PyData.plain d = true → PyData.hasDict d = false := by
  have go : ∀ n (d : D), sizeOf d ≤ n → PyData.plain d = true → PyData.hasDict d = false := by
    intro n
    induction n with
    | zero => intro d h; cases d <;> simp at h
    | succ n ih =>
      have all : ∀ xs : List D, sizeOf xs ≤ n → PyData.plainAll xs = true → PyData.hasDictAll xs = false := by
        intro xs
        induction xs with
        | nil => intro _ _; simp [PyData.hasDictAll]
        | cons x xs ihx =>
          intro h p
          simp only [PyData.plainAll, Bool.and_eq_true] at p
          simp at h
          simp only [PyData.hasDictAll, Bool.or_eq_false_iff]
          exact ⟨ih x (by omega) p.1, ihx (by omega) p.2⟩
      intro d h p
      cases d with
      | list xs => simp only [PyData.hasDict]; exact all xs (by simp at h; omega) (by simpa [PyData.plain] using p)
      | tuple xs => simp only [PyData.hasDict]; exact all xs (by simp at h; omega) (by simpa [PyData.plain] using p)
      | dict _ => simp [PyData.plain] at p
      | _ => simp [PyData.hasDict]
  exact fun d p => go _ d (Nat.le_refl _) p
theorem od_repr (hu : X.A.units + 64 < cLine) (hg : X.A.guards = some []) : OpD X (act1 fun u => call (.builtin "repr") [u]) .repr := by
  refine od_1 (fun ds d e => ?_) fun pins s σ H F x u d1 b d Q I c1 r1 hb e k => ?_
  · change f_repr ds = some d at e; unfold f_repr at e; split at e <;> first | exact ⟨_, rfl⟩ | cases e
  · change f_repr [d1] = some d at e
    simp only [f_repr] at e
    split at e
    · rename_i hj; cases e
      simp only [Bool.and_eq_true, decide_eq_true_eq] at hj
      obtain ⟨⟨⟨h1, h2⟩, h3⟩, h4⟩ := hj
      rw [lim_eq] at h4
      obtain ⟨as, h⟩ := c1.reads I r1
      have fin : ∀ (h' : Heap) (u : Tok) (tk : Nat), (∀ b o, s.heap.get? b = some o → h'.get? b = some o) → EP X pins σ Q (.str d1.shown u) { s with heap := h', toks := tk } := fun h' u tk hk =>
        ⟨.str _, H, I.kept (t' := tk) hk, ⟨u, rfl⟩, k _ _ (Same.refl H) (.den (.str _))⟩
      by_cases hr : ∃ a, u = .ref a
      · obtain ⟨a, rfl⟩ := hr
        exact repr_of_reads' h h1 (fun z => by rw [hasDict_of_plain _ h2] at z; cases z) hg (by omega) (fun _ _ e => e) fin h4
      · have lift : ∀ t, EP X pins σ Q (.str d1.shown s.toks) { s with toks := t } := fun t => fin s.heap _ t fun _ _ e => e
        cases h with
        | none => exact PySem.P.repr_of_none (lift _)
        | bool b => exact PySem.P.repr_of_bool (lift _)
        | int i t =>
          refine PySem.P.repr_of_int ?_ (lift _)
          simpa [PyData.showable] using h1
        | str x t => exact PySem.P.repr_of_str (lift _) h4
        | list => exact absurd ⟨_, rfl⟩ hr
        | tuple => exact absurd ⟨_, rfl⟩ hr
        | dict => exact absurd ⟨_, rfl⟩ hr
    · cases e
/-- the first place -/
theorem idxD_spec {x : D} : ∀ {xs : List D} {n : Nat}, idxD x xs = some n → n < xs.length ∧ (∃ y, xs[n]? = some y ∧ PyData.eqv y x = true) ∧ ∀ m, m < n → ∃ y, xs[m]? = some y ∧ PyData.eqv y x = false
  | [], _, h => by cases h
  | y :: ys, n, h => by
    unfold idxD at h
    split at h
    · next q => cases h; exact ⟨by simp, ⟨y, rfl, q⟩, fun m hm => absurd hm (Nat.not_lt_zero _)⟩
    · next q =>
      cases e : idxD x ys with
      | none => rw [e] at h; cases h
      | some m =>
        rw [e] at h; cases h
        obtain ⟨h1, h2, h3⟩ := idxD_spec e
        refine ⟨by simp; exact h1, by simpa using h2, fun j (hj : j < m + 1) => ?_⟩
        cases j with
        | zero => exact ⟨y, rfl, by simpa using q⟩
        | succ j => simpa using h3 j (by omega)
/-- == at each place -/
theorem eq_places {A : Around} {s : Shared} {its : Array Value} {ds : List D} {as bs : List Addr} {x : Value} {d : D} (rs : ReadsAll s.heap its.toList ds as) (rx : Reads s.heap x d bs) (hp : PyData.plainAll ds = true) (hd : d.plain = true) (hu : A.units + 1 + min (PyData.depthAll ds) d.depth < cLine) :
    ∀ j (hj : j < its.size), SeqAt.EqAt A.in1 s its[j] x (match ds[j]? with | some y => PyData.eqv y d | none => false) := by
  have go : ∀ (vs : List Value) (ds : List D) (as : List Addr), ReadsAll s.heap vs ds as → PyData.plainAll ds = true → ∀ m, PyData.depthAll ds ≤ m → A.units + 1 + min m d.depth < cLine → ∀ (j : Nat) (v : Value), vs[j]? = some v → SeqAt.EqAt A.in1 s v x (match ds[j]? with | some y => PyData.eqv y d | none => false) := by
    intro vs
    induction vs with
    | nil => intro ds as r _ m _ _ j v h; simp at h
    | cons v vs ih =>
      intro ds as r hp m hm hu j u h
      cases r with
      | cons r1 r2 =>
        rename_i y ys _ _
        simp only [PyData.plainAll, Bool.and_eq_true] at hp
        simp only [PyData.depthAll] at hm
        cases j with
        | zero =>
          simp at h; subst h
          refine SeqAt.eqAt_plain _ _ _ _ _ _ _ _ r1 rx hp.1 hd ?_
          show A.units + 1 + min y.depth d.depth < cLine
          have : y.depth ≤ m := by omega
          omega
        | succ j => simpa using ih ys _ r2 hp.2 m (by omega) hu j u (by simpa using h)
  intro j hj
  exact go _ _ _ rs hp _ (Nat.le_refl _) hu j _ (by simp [hj])
theorem od_index_list (hu : X.A.units + 64 < cLine) {pins : List (Addr × Obj)} {s : Shared} {σ : L2.St} {H : Hp} {F : Addr → Prop} {x y : V} {u v : Value} {xs : List D} {d2 : D} {b : Bool} {n : Nat} {Q : VK} (I : Inv X pins σ H s) (c1 : Cur X.w F H x (.list xs) b) (c2 : Cur X.w F H y d2 b) (r1 : RelV x u) (r2 : RelV y v)
    (hp : PyData.plain d2 = true) (hq : PyData.plainAll xs = true) (hd : min (PyData.depthAll xs) d2.depth ≤ 40) (e : idxD d2 xs = some n) (k : Q (.int n) H) : wpAny (model X.prog X.w) X.A (call (.builtin "list.index") [u, v]) (EP X pins σ Q) X.xe s := by
  obtain ⟨a, its, m, as, rfl, ho, rs, hl, hz⟩ := c1.listR I r1
  obtain ⟨bs, rx⟩ := c2.reads I r2
  obtain ⟨h1, ⟨y', h2, h3⟩, h4⟩ := idxD_spec e
  have hz' : its.size ≤ 16777216 := by rw [sizeLine_eq] at hz; exact hz
  refine call_meets PySem.F.slot_list_index ⟨_, ho, rfl⟩ PySem.F.entry_list_index (PySem.F.args_list_index_2 _ _)
    (PySem.SeqAt.list_index2_found a its m none _ v (fun j => match xs[j]? with | some y => PyData.eqv y d2 | none => false) n (by omega) (Nat.zero_le _) (by omega) (by simp [h2, h3]) fun j hj _ hlt => ?_) ⟨ho, eq_places rs rx hq hp (dep41 hu hd), ?_⟩
  · obtain ⟨y2, g1, g2⟩ := h4 j hlt
    simp [g1, g2]
  · exact ⟨.int n, H, I.tok _, ⟨_, rfl⟩, k⟩
theorem od_count (hu : X.A.units + 64 < cLine) : OpD X (act2 fun u v => call (.builtin "list.count") [u, v]) .count := by
  refine od_2 (fun ds d e => ?_) fun pins s σ H F x y u v d1 d2 b d Q I c1 c2 r1 r2 hb e k => ?_
  · change f_count ds = some d at e; unfold f_count at e; split at e <;> first | exact ⟨_, _, rfl⟩ | cases e
  · change f_count [d1, d2] = some d at e
    unfold f_count at e
    split at e
    · rename_i xs y he; cases he
      split at e
      · rename_i hj; cases e
        simp only [Bool.and_eq_true, decide_eq_true_eq] at hj
        obtain ⟨a, its, m, as, rfl, ho, rs, hl, hz⟩ := c1.listR I r1
        obtain ⟨bs, rx⟩ := c2.reads I r2
        exact SeqAt.count_list_data ⟨_, ho, rfl, _, rfl⟩ rs rx hj.1.2 hj.1.1 (dep41 hu hj.2) ⟨.int _, H, I.tok _, ⟨_, rfl⟩, k _ _ (Same.refl H) (.den (.int _))⟩
      · cases e
    · cases e
end
end Mp
set_option Elab.async false
set_option linter.all false
set_option maxRecDepth 100000
set_option maxHeartbeats 4000000
set_option autoImplicit false
/-! MpE: own exceptions whose arguments are known to be none -/
namespace Mp
open PySem PySem.Spec PyProof.Rows L2
/-- what is known of an exception's object: its class, no dict, where its arguments' tuple stands -/
def Zx (cls : Value) (t : Addr) : Obj → Prop := fun o => (o.cls = cls ∧ o.dict = none) ∧ ∃ vs, o.data = .fields vs ∧ vs[0]? = some (.ref t)
theorem Zx.steady {cls : Value} {t : Addr} : PXN.Steady1 (Zx cls t) := by
  intro o v ⟨⟨h1, h2⟩, vs, e, e0⟩
  exact ⟨⟨PXN.steady_cls o v h1, PXN.steady_dict o v h2⟩, _, Obj.data_mapFields e _, by rw [Array.getElem?_setIfInBounds_ne (by decide)]; exact e0⟩
/-- the air: an exception at a, over the ground B; sI: all but the exception -/
structure Air (X : Cx) (a : Addr) (B : Heap) (sI : Shared) (pins : List (Addr × Obj)) (σ : L2.St) (H : Hp) (t : Addr) (s' : Shared) : Prop where
  inv : Inv X pins σ H sI
  nb : ∀ b o, sI.heap.get? b = some o → b ∉ frs X.stack → B.get? b = some o
  up : sI.heap.UpToSlots s'.heap
  na : H a = none
  tp : H t = some (.tup [])
  os : s'.os = sI.os
  ag : AllBare s'.gens
def XE (X : Cx) (W : WX) (u : Value) (s' : Shared) : Prop := ∃ a B sI pins σ H cls t, u = .ref a ∧ Air X a B sI pins σ H t s' ∧ Sky B X.stack a (Zx cls t) X.env.locals s'.heap ∧ W cls none σ H
def Takes (X : Cx) (W : WX) : Prop := ∀ u s', XE X W u s' → X.xe u s'
theorem Takes.imp {X : Cx} {W W' : WX} (tk : Takes X W) (h : ∀ c σ H, W' c none σ H → W c none σ H) : Takes X W' := by
  rintro u s' ⟨a, B, sI, pins, σ, H, cls, t, e, air, sky, w⟩
  exact tk u s' ⟨a, B, sI, pins, σ, H, cls, t, e, air, sky, h _ _ _ w⟩
/-- how an exception lies behind a call -/
def CX (P : Program) (w : World) (outer : List Env) (H : Hp) (s : Shared) (E : XK) (u : Value) (s' : Shared) : Prop := ∃ a B H' cls t,
  u = .ref a ∧ HandSPX.FlyingZ B outer a (Zx cls t) s'.heap ∧ (HOk P w H' B ∧ UB (frs outer) H H' s.heap B s'.heap) ∧ (H' a = none ∧ H' t = some (.tup [])) ∧ (s'.os = s.os ∧ AllBare s'.gens) ∧ E cls none H'
section
variable {X : Cx} {pins : List (Addr × Obj)} {σ : L2.St} {H : Hp} {sI s s' : Shared} {B : Heap} {W : WX} {E : XK}
theorem XE.of_call (I : Inv X pins σ H s) (hW : ∀ cls H', E cls none H' → W cls none σ H') {u : Value} (c : CX X.prog X.w X.stack H s E u s') : XE X W u s' := by
  obtain ⟨a, B, H', cls, t, rfl, fl, ⟨hok, ub⟩, ⟨na, tp⟩, ⟨os, ag⟩, hE⟩ := c
  -- the ground, and the frames as they are
  obtain ⟨G, g1, g2⟩ := restrict s'.heap fun b => (B.get? b).isSome || decide (b ∈ frs X.stack)
  have gB : ∀ {b o}, B.get? b = some o → G.get? b = some o := fun {b o} e => (g1 b (by rw [e]; rfl)).trans (fl.1 b o e)
  have gF : ∀ {b}, b ∈ frs X.stack → G.get? b = s'.heap.get? b := fun {b} hb => g1 b (by rw [decide_eq_true hb, Bool.or_true])
  have back : ∀ {b o}, G.get? b = some o → s'.heap.get? b = some o ∧ (b ∈ frs X.stack ∨ B.get? b = some o) := fun {b o} e => by
    by_cases hb : b ∈ frs X.stack
    · exact ⟨(gF hb).symm.trans e, .inl hb⟩
    · cases q : B.get? b with
      | none => rw [g2 b (by rw [q, decide_eq_false hb]; rfl)] at e; cases e
      | some o' => rw [gB q] at e; cases e; exact ⟨fl.1 b _ q, .inr rfl⟩
  have un : Un (frs X.stack) [] H H' s.heap G := by
    constructor
    · exact fun b o e n hb _ => gB (ub.keep b o e n hb)
    · intro b o e n hb _
      obtain ⟨sl, q⟩ := ub.slot b o e hb
      exact ⟨sl, (gF hb).trans q⟩
    · exact fun b o e n _ => ub.free b o e n
    · intro b o e _
      by_cases hb : b ∈ frs X.stack
      · obtain ⟨sl, q⟩ := ub.slot b o e hb
        exact ⟨_, (gF hb).trans q⟩
      · obtain ⟨o', q⟩ := ub.there b o e hb
        exact ⟨o', gB q⟩
    · exact ub.tups
    · exact ub.frzs
    · exact ub.tbls
  refine ⟨a, B, { s with heap := G, gens := s'.gens, drawn := s'.drawn, toks := s'.toks }, pins, σ, H', cls, t, rfl, ⟨?_, ?_, ?_, na, tp, os, ag⟩, .inr (.inl fl), hW _ _ hE⟩
  · exact I.call (ch := []) un (hok.kept fun b o e => gB e) ag fun _ z => nomatch z
  · exact fun b o e hb => (back e).2.resolve_left hb
  · exact Heap.UpToSlots.of_keeps fun b o e => (back e).1
/-- it leaves the def -/
theorem XE.leave (hs : X.stack = X.env :: X.outer) (hf : X.env.frame = some X.env.locals) (hex : X.ex = []) {E₁ : Value → Shared → Prop} (hW : ∀ cls σ H, W cls none σ H → E cls none H) {u : Value} (x : XE X W u s') :
    wpAny (model X.prog X.w) X.A (leaving X.env u) (fun _ s2 => CX X.prog X.w X.outer X.H_0 X.s_0 E u s2) E₁ s' := by
  obtain ⟨a, B, sI, pins, σ, H, cls, t, rfl, air, sky, w⟩ := x
  obtain ⟨I, nb, up, na, tp, os, ag⟩ := air
  have hfr : X.A.frames = some (X.env :: X.outer) := I.ok.frames.trans (by rw [hs])
  have no : ∀ b, b ∉ X.ex := fun b hb => by rw [hex] at hb; cases hb
  have off : ∀ b o, X.s_0.heap.get? b = some o → b ∉ X.fs → b ∉ frs X.stack := fun b o e hb hm =>
    (List.mem_cons.mp (I.stkSub b hm)).elim (fun z => Nat.lt_irrefl _ (Nat.lt_of_lt_of_le (z ▸ Heap.lt_size e) I.ok.above)) hb
  have ub : ∀ h', s'.heap.UpToSlots h' → UB (frs X.outer) X.H_0 H X.s_0.heap B h' := fun h' up' => by
    constructor
    · exact fun b o e n hb => nb b o (I.base.keep b o e n hb (no b)) (off b o e hb)
    · intro b o e hb
      obtain ⟨_, o1, e1, hnf⟩ := I.ok.funs.mem hb
      obtain rfl : o1 = o := Option.some.inj (e1.symm.trans e)
      obtain ⟨sl, q⟩ := I.base.slot b _ e (I.ok.frf b hb) hb (no b)
      obtain ⟨sl2, q2⟩ := up b _ q hnf
      obtain ⟨sl3, q3⟩ := up' b _ q2 hnf
      exact ⟨sl3, q3⟩
    · exact fun b o e n => I.base.free b o e n (no b)
    · intro b o e hb
      obtain ⟨o', q⟩ := I.base.there b o e (no b)
      exact ⟨o', nb b o' q (off b o e hb)⟩
    · exact I.base.tups
    · exact I.base.frzs
    · exact I.base.tbls
  have fin : ∀ h', HandSPX.FlyingZ B X.outer a (Zx cls t) h' → s'.heap.UpToSlots h' → CX X.prog X.w X.outer X.H_0 X.s_0 E (.ref a) { s' with heap := h' } := fun h' fl up' =>
    ⟨a, B, H, cls, t, rfl, fl, ⟨I.inGround nb, ub h' up'⟩, ⟨na, tp⟩, ⟨os.trans I.os, ag⟩, hW _ _ _ w⟩
  rw [hs] at sky
  rcases sky with ⟨hB, hn, hl, oe, vs, he, hz, hd, h1⟩ | fl | hd
  · exact PXN.leaving_firstZ Zx.steady hfr hl hf he hB hn hd h1 hz fin
  · exact PXN.leaves_onZ Zx.steady hfr hf fl fin
  · exact HandSPX.leaves_heldZ hf hd fin
theorem takes_of (hs : X.stack = X.env :: X.outer) (hf : X.env.frame = some X.env.locals) (hex : X.ex = []) {E₁ : Value → Shared → Prop}
    (hx : X.xe = fun e s2 => wpAny (model X.prog X.w) X.A (leaving X.env e) (fun _ s3 => CX X.prog X.w X.outer X.H_0 X.s_0 E e s3) E₁ s2) : Takes X (fun cls d _ H => E cls d H) := by
  intro u s2 x
  rw [hx]
  exact x.leave hs hf hex fun _ _ _ h => h
theorem passAt (tk : Takes X W) (σ : L2.St) : PassesAt (CX X.prog X.w) X σ (WE W σ) := fun _ _ _ e s2 I c => tk e s2 (.of_call I (fun _ _ h => h) c)
/-- a new object at a free place -/
theorem Inv.laidN {h' : Heap} {a : Addr} {o : HO} {t' : Nat} (I : Inv X pins σ H s) (k : ∀ b u, s.heap.get? b = some u → h'.get? b = some u) (hp : s.heap.get? a = none) (new : ObjOk X.prog X.w (upd H a o) h' a o) :
    Inv X pins σ (upd H a o) { s with heap := h', toks := t' } := by
  have hn : H a = none := I.hok.gone hp
  have ne : ∀ {b u}, s.heap.get? b = some u → b ≠ a := fun {b u} e z => by rw [z, hp] at e; cases e
  have ne2 : ∀ {b u}, H b = some u → b ≠ a := fun {b u} e z => by rw [z, hn] at e; cases e
  refine I.un ⟨fun b u e _ _ _ => k b u e, fun b u e _ _ _ => ⟨u.slots, k b u e⟩, fun b u e n _ => by rw [upd_ne (ne e)]; exact n, fun b u e _ => ⟨u, k b u e⟩, fun b xs e => by rw [upd_ne (ne2 e)]; exact e,
    fun b u xs e => by rw [upd_ne (ne2 e)]; exact e, fun b ps e => ⟨#[], by rw [upd_ne (ne2 e), e]; simp⟩⟩ fun b u e => ?_
  by_cases hb : b = a
  · subst hb; rw [upd_same] at e; cases e; exact new
  · rw [upd_ne hb] at e
    exact (I.hok b u e).stay (fun c v _ q => k c v q) (fun c q => by rw [upd_ne (ne2 q)]; exact q) fun c xs q => by rw [upd_ne (ne2 q)]; exact q
/-- a new exception, made with no argument -/
theorem XE.new {h' : Heap} {e : Addr} {cls : Value} (I : Inv X pins σ H s) (m : Heap.MadeExcOf s.heap h' e cls []) (w : ∀ t, H t = none → W cls none σ (upd H t (.tup []))) : XE X W (.ref e) { s with heap := h' } := by
  obtain ⟨t, he, ht0, ht⟩ := m.there
  have net : t ≠ e := fun z => by rw [z, he] at ht; cases ht
  have hs : ∀ {b o}, s.heap.get? b = some o → b ≠ e := fun {b o} q z => by rw [z, m.new] at q; cases q
  obtain ⟨G, g1, g2⟩ := restrict h' fun b => !decide (b = e)
  have gG : ∀ {b}, b ≠ e → G.get? b = h'.get? b := fun {b} hb => g1 b (by simp [hb])
  have ge : G.get? e = none := g2 e (by simp)
  have gk : ∀ {b o}, G.get? b = some o → h'.get? b = some o ∧ b ≠ e := fun {b o} q => by
    have hb : b ≠ e := fun z => by rw [z, ge] at q; cases q
    exact ⟨(gG hb).symm.trans q, hb⟩
  have new : ObjOk X.prog X.w (upd H t (.tup [])) G t (.tup []) := ⟨Nat.zero_le _, [], .nil, ⟨_, (gG net).trans ht, rfl, _, rfl⟩⟩
  have I2 := Inv.laidN (t' := s.toks) I (h' := G) (fun b o q => (gG (hs q)).trans (m.keeps b o q)) ht0 new
  refine ⟨e, PySem.W.hideAll G (frs X.stack), _, pins, σ, _, cls, t, rfl, ⟨I2, fun b o q hb => PySem.W.hideAll_get _ q hb, Heap.UpToSlots.of_keeps fun b o q => (gk q).1, ?_, upd_same, rfl, I.bare⟩,
    .inl ⟨fun b o q => (gk (PySem.W.of_hideAll _ q)).1, ?_, ?_, _, _, he, ⟨⟨rfl, rfl⟩, _, rfl, rfl⟩, rfl, rfl⟩, w t (I.hok.gone ht0)⟩
  · rw [upd_ne (Ne.symm net)]; exact I.hok.gone m.new
  · cases q : (PySem.W.hideAll G (frs X.stack)).get? e with
    | none => rfl
    | some o => have z := PySem.W.of_hideAll _ q; rw [ge] at z; cases z
  · exact Heap.FunFrames.of_keeps (fun b o q _ => ⟨o, (gk q).1, rfl⟩) (funFrames_none I2.stack fun b hb => PySem.W.hideAll_none _ hb)
end
/-- raise C() -/
theorem ps_raise0 {X : Cx} {W : WX} {C : Addr} {bmB : List Value} {B newId initId : String} {x : Str} {p pos pos' : Pos} (hc : X.calm = true) (tk : Takes X W) (F : ExcBaseFacts B newId initId bmB) (q : PySem.W.excIn X.K C bmB newId = true) (gC : X.mg x = some (.ref C))
    (kC : PySem.W.keepIn X.K (.ref C) = true) (r : Raises X (.ref C)) (hg : Gl X x) (hdb : (x == ("__debug__" : Str)) = false) :
    PS X (.Raise (some (.Call (.Name x p) [] [] pos)) none pos') (fun _ σ H => ∀ t, H t = none → W (.ref C) none σ (upd H t (.tup []))) := by
  refine ⟨fun pins s σ H D I h => ?_⟩
  have mk : wpAny (model X.prog X.w) X.A (eval (.Call (.Name x p) [] [] pos) X.env) (fun u s1 => ∃ e h', u = .ref e ∧ s1 = { s with heap := h' } ∧ Heap.MadeExcOf s.heap h' e (.ref C) []) X.xe s := by
    refine wpAny_Call_Name_kw (ld_glob I hg gC ?_ hdb)
    refine PySem.W.callWith_K0 I.kIn kC ?_
    show wpAny _ _ (call (.ref C) []) _ _ _
    obtain ⟨bm, N, nm, qn, bs, hdct, sn, sub, ab, col, dd, k0, k1, k2, k3, k5, mN, hC, hN, hni, T⟩ := exc_obj I.kIn q
    exact wpAny_call_exc_subT F T hC hN hni (fun h' e hm => ⟨e, h', rfl, rfl, hm⟩) (Nat.zero_le _)
  show wpAny _ _ (do standAt pos'; raiseStmt X.env (some (do let v ← eval (.Call (.Name x p) [] [] pos) X.env; standAt pos'; pure v)) none) _ _ _
  refine wpAny_bind (wpAny_standAt (raise_made (I.ok.hd hc) (wpAny_bind (thn mk fun u s1 hu => wpAny_bind (wpAny_standAt (wpAny_pure ?_))))))
  obtain ⟨e, h', rfl, rfl, m⟩ := hu
  obtain ⟨t, he, _, _⟩ := m.there
  obtain ⟨r1, r2⟩ := r (model X.prog X.w) h' (I.kIn.keeps m.keeps)
  exact ⟨e, _, _, .ref C, rfl, he, rfl, rfl, rfl, r1, r2, tk _ _ (.new I m h)⟩
end Mp
set_option Elab.async false
set_option linter.all false
set_option maxRecDepth 100000
set_option maxHeartbeats 4000000
set_option autoImplicit false
/-! MpF: try .. except; the def that tells an exception's class -/
namespace Mp
open PySem PySem.Spec PyProof.Rows L2
section
variable {X : Cx} {pins : List (Addr × Obj)} {σ : L2.St} {H : Hp} {sI s s' : Shared} {B : Heap} {Wout : WX} {D : Ends} {a t : Addr} {cls c : Value} {b : Bool}
/-- what lies in the body's air, seen from outside the try -/
theorem SP.ofTry {xe : Value → Shared → Prop} {f : Flow} (ok : X.Ok) (h : SP (X.tr (X.pn ++ pins) xe) [] D f s') : SP X pins D f s' := by
  cases f with
  | next => obtain ⟨σ2, H2, J, q⟩ := h; exact ⟨σ2, H2, J.ofTry ok, q⟩
  | brk => obtain ⟨σ2, H2, J, q⟩ := h; exact ⟨σ2, H2, J.ofTry ok, q⟩
  | cont => obtain ⟨σ2, H2, J, q⟩ := h; exact ⟨σ2, H2, J.ofTry ok, q⟩
  | ret u => obtain ⟨v, σ2, H2, J, r, q⟩ := h; exact ⟨v, σ2, H2, J.ofTry ok, r, q⟩
/-- a try: the body, then the clauses upon an exception that has landed -/
theorem ps_tryE {body : List Stmt} {h0 : ExceptHandler} {hds : List ExceptHandler} {pos : Pos} {tb : WX → TS} {wish : Ends → WX} (hs : X.stack = X.env :: X.outer) (hf : X.env.frame = some X.env.locals)
    (hb : ∀ (W : WX) (pn : List (Addr × Obj)) (xe : Value → Shared → Prop), Takes (X.tr pn xe) W → PassesOwn (model X.prog X.w) X.A X.env xe → PSs (X.tr pn xe) body (tb W))
    (hh : ∀ (pins : List (Addr × Obj)) (D : Ends) (a : Addr) (B : Heap) (sI : Shared) (σ : L2.St) (H : Hp) (cls : Value) (t : Addr) (s' : Shared), X.Ok → Air X a B sI pins σ H t s' → HandSPX.FlyingZ B (X.env :: X.outer) a (Zx cls t) s'.heap → wish D cls none σ H →
      wpAny (model X.prog X.w) X.A (handleBy (.ref a) X.env (h0 :: hds)) (SP X pins D) X.xe s') : PS X (.Try body (h0 :: hds) [] [] pos) (fun D σ H => tb (wish D) D σ H) := by
  refine ⟨fun pins s σ H D I h => wpAny_Try_except ?_⟩
  have ok := I.ok
  have hfr : X.A.frames = some (X.env :: X.outer) := by rw [ok.frames, hs]
  refine wpAny_mono ((hb (wish D) (X.pn ++ pins) (fun e s1 => wpAny (model X.prog X.w) X.A (noteFrame e X.env) (fun _ s2 => wpAny (model X.prog X.w) X.A (setFlight e none)
    (fun _ s3 => wpAny (model X.prog X.w) X.A (handleBy e X.env (h0 :: hds)) (SP X pins D) X.xe s3) X.xe s2) X.xe s1) ?_ PassesOwn.looking).run [] s σ H D (I.toTry _) h) (fun f s1 q => ?_) fun _ _ z => z
  · rintro u s' ⟨a, B, sI, pins', σ', H', cls, t, rfl, air, sky, w⟩
    have sky' : Sky B (X.env :: X.outer) a (Zx cls t) X.env.locals s'.heap := by rw [← hs]; exact sky
    exact L2N.Sky.land Zx.steady hfr hf sky' fun h3 fl up => hh pins D a B sI σ' H' cls t _ ok ⟨air.inv.ofTry ok, air.nb, air.up.trans up, air.na, air.tp, air.os, air.ag⟩ fl w
  · have q' := SP.ofTry ok q
    cases f with
    | next => exact wpAny_execs_nil q'
    | brk => exact q'
    | cont => exact q'
    | ret u => exact q'
/-- no clause takes it -/
theorem hand_nil (hs : X.stack = X.env :: X.outer) (hf : X.env.frame = some X.env.locals) (tk : Takes X Wout) (air : Air X a B sI pins σ H t s') (fl : HandSPX.FlyingZ B (X.env :: X.outer) a (Zx cls t) s'.heap) (w : Wout cls none σ H) :
    wpAny (model X.prog X.w) X.A (handleBy (.ref a) X.env []) (SP X pins D) X.xe s' := by
  refine wpAny_handleBy_nil ?_
  obtain ⟨_, _, _, oe, vs, T, oT, ts, he, hz, hd, h1, hr⟩ := id fl
  unfold PySem.passOn
  refine wpAny_bind (wpAny_field he hd h1 ?_)
  rw [if_neg (show ¬ ((Value.ref T == Value.none) = true) from by simp)]
  have on : wpAny (model X.prog X.w) X.A (setFlight (.ref a) X.env.frame) (fun _ s4 => wpAny (model X.prog X.w) X.A (throw (.ref a) : Sem Flow) (SP X pins D) X.xe s4) X.xe s' := by
    rw [hf]
    refine HandSPX.setFlight_upZ fl fun h4 hh up => wpAny_throw (tk _ _ ⟨a, B, sI, pins, σ, H, cls, t, rfl, ⟨air.inv, air.nb, air.up.trans up, air.na, air.tp, air.os, air.ag⟩, ?_, w⟩)
    rw [hs]; exact .inr (.inr hh)
  first
    | exact wpAny_bind (wpAny_pure (wpAny_bind on))
    | exact wpAny_bind on
/-- an exception on the ground is an object that may be pinned -/
theorem Air.pinned (air : Air X a B sI pins σ H t s') (hs : X.stack = X.env :: X.outer) (hf : X.env.frame = some X.env.locals) (fl : HandSPX.FlyingZ B (X.env :: X.outer) a (Zx cls t) s'.heap) :
    ∃ oe, Zx cls t oe ∧ s'.heap.get? a = some oe ∧ Inv (X.suite a ((a, oe) :: (X.pn ++ pins))) [] σ H s' := by
  obtain ⟨oe, vs, he, hz, hd⟩ := fl.there
  have nf : a ∉ frs (X.env :: X.outer) := fun hm => by
    obtain ⟨_, o, e, hn⟩ := fl.2.2.1.mem hm
    rw [he] at e; cases e
    exact hn _ hd
  have J : Inv X pins σ H s' := air.inv.landed air.nb fl.1 air.up air.os air.ag
  refine ⟨oe, hz, he, J.suite he hd air.na (fun z => nf (List.mem_filterMap.mpr ⟨X.env, List.mem_cons_self, by rw [hf, z]⟩)) fun hm => ?_⟩
  obtain ⟨e, h1, h2⟩ := List.mem_filterMap.mp hm
  exact nf (List.mem_filterMap.mpr ⟨e, List.mem_cons_of_mem _ h1, h2⟩)
/-- the clause's class is looked at -/
theorem hand_test {x : Str} {np : Pos} {oe : Obj} {pn : List (Addr × Obj)} {E : Value → Shared → Prop} {Q : Bool → Shared → Prop} (hc : Names X x c) (S3 : Inv (X.suite a pn) [] σ H s') (he : s'.heap.get? a = some oe) (hz : Zx cls t oe)
    (m : PySem.W.exmOne X.K cls c = some b) (k : Q b s') : wpAny (model X.prog X.w) (X.A.mark (some (.ref a))) (eval (.Name x np) X.env) (fun c s1 => wpAny (model X.prog X.w) (X.A.mark (some (.ref a))) (excMatches (.ref a) c) Q E s1) E s' := by
  have LT : PySem.W.Looks (model X.prog X.w) s'.heap (typeOf (.ref a)) cls := fun A Q E s k q => wpAny_typeOf_ref (k _ _ he) (by rw [hz.1.1]; exact q)
  have LM := PySem.W.exm_one (M := model X.prog X.w) S3.kIn LT m
  obtain ⟨hg, hd, hm | ⟨hm, hv, hn⟩⟩ := hc
  · exact ld_glob (X := X.suite a pn) S3 hg hm (LM.here k) hd
  · exact ld_blt (X := X.suite a pn) S3 hg hm hv (LM.here k) hn hd
/-- the ends of a suite whose name i is forgotten behind it -/
def forgets (i : Nat) (D : Ends) : Ends := { nx := fun σ H => D.nx (σ.set i none) H, rt := D.rt, bk := fun σ H => D.bk (σ.set i none) H, ct := fun σ H => D.ct (σ.set i none) H }
/-- except x as n: suite -/
theorem hand_as {x n : Str} {i : Nat} {np pos' : Pos} {b0 : Stmt} {suite : List Stmt} {hds : List ExceptHandler} (hs : X.stack = X.env :: X.outer) (hf : X.env.frame = some X.env.locals) (hN : X.N.Nodup) (hi : X.N[i]? = some n) (hln : X.env.kindOf n = some .local) (hc : Names X x c)
    (ok : X.Ok) (air : Air X a B sI pins σ H t s') (fl : HandSPX.FlyingZ B (X.env :: X.outer) a (Zx cls t) s'.heap) (m : PySem.W.exmOne X.K cls c = some b)
    (yes : b = true → ∀ oe, Zx cls t oe → ∃ ts : TS, PSs (X.suite a ((a, oe) :: (X.pn ++ pins))) (b0 :: suite) ts ∧ ts (forgets i D) (σ.set i (some (.ref a))) H)
    (no : b = false → wpAny (model X.prog X.w) X.A (handleBy (.ref a) X.env hds) (SP X pins D) X.xe s') :
    wpAny (model X.prog X.w) X.A (handleBy (.ref a) X.env (.ExceptHandler (some (.Name x np)) (some n) (b0 :: suite) pos' :: hds)) (SP X pins D) X.xe s' := by
  obtain ⟨oe, hz, he, S3⟩ := air.pinned hs hf fl
  refine wpAny_handleBy_cons (codeAny_handlers_test (hand_test hc S3 he hz m ?_)) (by intro q; cases q)
  cases b with
  | false => exact no rfl
  | true =>
    refine codeAny_handlers_suite_as (HandSPX.lands_againZ fl fun h4 fl4 up => ?_)
    have air4 : Air X a B sI pins σ H t { s' with heap := h4 } := ⟨air.inv, air.nb, air.up.trans up, air.na, air.tp, air.os, air.ag⟩
    obtain ⟨oe4, hz4, he4, S4⟩ := air4.pinned hs hf fl4
    obtain ⟨ts, hts, w⟩ := yes rfl oe4 hz4
    refine store_ok (X := X.suite a ((a, oe4) :: (X.pn ++ pins))) (v := .ref a) S4 hN hi (.inl hln) rfl (fun s5 S5 => ?_) (.inr hln)
    refine wpAny_mono (hts.run [] s5 _ H _ S5 w) (fun f s6 q => ?_) fun _ _ z => False.elim z
    have goes : ∀ {σ6 : L2.St} {H6 : Hp} {Q : Shared → Prop}, Inv (X.suite a ((a, oe4) :: (X.pn ++ pins))) [] σ6 H6 s6 → (∀ s7, Inv X pins (σ6.set i none) H6 s7 → Q s7) →
        wpAny (model X.prog X.w) X.A (do bindName X.env n .none; unbindBehindTheSuite X.env n pos') (fun _ s7 => Q s7) X.xe s6 := fun S6 hq => gone_ok (S6.unsuite ok) hN hi hln hq
    cases f with
    | next => obtain ⟨σ6, H6, S6, q6⟩ := q; exact goes S6 fun s7 J => ⟨_, _, J, q6⟩
    | brk => obtain ⟨σ6, H6, S6, q6⟩ := q; exact goes S6 fun s7 J => ⟨_, _, J, q6⟩
    | cont => obtain ⟨σ6, H6, S6, q6⟩ := q; exact goes S6 fun s7 J => ⟨_, _, J, q6⟩
    | ret u => obtain ⟨v6, σ6, H6, S6, r6, q6⟩ := q; exact goes S6 fun s7 J => ⟨_, _, _, J, r6, q6⟩
/-- except x: suite -/
theorem hand_only {x : Str} {np pos' : Pos} {b0 : Stmt} {suite : List Stmt} {hds : List ExceptHandler} (hs : X.stack = X.env :: X.outer) (hf : X.env.frame = some X.env.locals) (hc : Names X x c)
    (ok : X.Ok) (air : Air X a B sI pins σ H t s') (fl : HandSPX.FlyingZ B (X.env :: X.outer) a (Zx cls t) s'.heap) (m : PySem.W.exmOne X.K cls c = some b)
    (yes : b = true → ∀ oe, Zx cls t oe → ∃ ts : TS, PSs (X.suite a ((a, oe) :: (X.pn ++ pins))) (b0 :: suite) ts ∧ ts D σ H)
    (no : b = false → wpAny (model X.prog X.w) X.A (handleBy (.ref a) X.env hds) (SP X pins D) X.xe s') :
    wpAny (model X.prog X.w) X.A (handleBy (.ref a) X.env (.ExceptHandler (some (.Name x np)) none (b0 :: suite) pos' :: hds)) (SP X pins D) X.xe s' := by
  obtain ⟨oe, hz, he, S3⟩ := air.pinned hs hf fl
  refine wpAny_handleBy_cons (codeAny_handlers_test (hand_test hc S3 he hz m ?_)) (by intro q; cases q)
  cases b with
  | false => exact no rfl
  | true =>
    refine codeAny_handlers_suite (HandSPX.lands_againZ fl fun h4 fl4 up => ?_)
    have air4 : Air X a B sI pins σ H t { s' with heap := h4 } := ⟨air.inv, air.nb, air.up.trans up, air.na, air.tp, air.os, air.ag⟩
    obtain ⟨oe4, hz4, he4, S4⟩ := air4.pinned hs hf fl4
    obtain ⟨ts, hts, w⟩ := yes rfl oe4 hz4
    refine wpAny_mono (hts.run [] _ σ H _ S4 w) (fun f s6 q => ?_) fun _ _ z => False.elim z
    cases f with
    | next => obtain ⟨σ6, H6, S6, q6⟩ := q; exact ⟨_, _, S6.unsuite ok, q6⟩
    | brk => obtain ⟨σ6, H6, S6, q6⟩ := q; exact ⟨_, _, S6.unsuite ok, q6⟩
    | cont => obtain ⟨σ6, H6, S6, q6⟩ := q; exact ⟨_, _, S6.unsuite ok, q6⟩
    | ret u => obtain ⟨v6, σ6, H6, S6, r6, q6⟩ := q; exact ⟨_, _, _, S6.unsuite ok, r6, q6⟩
end
/-! ### the def that tells an exception's class, called where the exception is handled -/
structure FnX (P : Program) (w : World) (K : PySem.W.Frag) (mg : Str → Option Value) (base : Heap) (k : Nat) (cl : Nat → Addr) (f : Addr) (fd : FuncData) (ps : List Str) (F : Fn) : Prop where
  len : ps.length = 1
  run : ∀ (A : Around) (outer : List Env) (s : Shared) (H : Hp) (args : Args) (e t : Addr) (oe : Obj) (c : Nat) (x : Str) (Q : VK) (E : XK), L2H.RoomH k A → L2H.PinOk outer H s (e, oe) → Zx (.ref (cl c)) t oe → H t = some (.tup []) → F.run [.exc c] [] = some (.ret (.dat (.str x)) []) →
    Env0 P w K mg base A outer s H → BindsTo s fd args (ps.zip [.ref e]) → (∀ H', Same H H' → Q (.str x) H') → codeAny (model P w) A (.call (.ref f) args) (L2.CR (Mp.CX P w) outer P w H s Q E) s
structure KlsAt (X : Cx) (cl : Nat → Addr) (k : Nat) (x : Str) (F : Fn) : Prop where
  ex : ∃ (a : Addr) (fd : FuncData) (ps : List Str), X.mg x = some (.ref a) ∧ PySem.W.keepIn X.K (.ref a) = true ∧ Binds X.K fd ps [] ∧ FnX X.prog X.w X.K X.mg X.base k cl a fd ps F
section
variable {X : Cx} {cl : Nat → Addr} {k : Nat}
/-- the call of such a def, within a suite -/
theorem pe_kls {x n : Str} {i : Nat} {F : Fn} {p p2 pos : Pos} {e t : Addr} {oe : Obj} {c : Nat} {z : Str} (K : KlsAt X cl k x F) (hr : L2H.RoomH k X.A) (hp : (e, oe) ∈ X.pn) (hz : Zx (.ref (cl c)) t oe) (hrun : F.run [.exc c] [] = some (.ret (.dat (.str z)) [])) (hg : Gl X x)
    (hd : (x == ("__debug__" : Str)) = false) (hN : X.N[i]? = some n) (hv : Vis X.env.scope n) (hd2 : (n == ("__debug__" : Str)) = false) (hc2 : (n == ("__classdict__" : Str)) = false) :
    PE X (.Call (.Name x p) [.Name n p2] [] pos) (fun σ H Q => σ[i]? = some (some (.ref e)) ∧ H t = some (.tup []) ∧ ∀ H', Same H H' → Q (.str z) H') := by
  refine ⟨fun pins s σ H Q I ⟨hσ, ht, q⟩ => ?_⟩
  obtain ⟨a, fd, ps, hm, hk, hb, FX⟩ := K.ex
  refine wpAny_Call_Name_kw (ld_glob I hg hm ?_ hd)
  have ha : PA X [.Name n p2] _ := pa_cons (pe_var hN hv hd2 hc2) pa_nil
  refine PySem.W.callWith_K (h₀ := X.base) I.ok.mod.kin hk (thn (ha.run pos pins s σ H (fun vs H1 => vs = [V.ref e] ∧ H1 = H) I ⟨_, hσ, rfl, rfl⟩) fun us s1 hh => ?_)
  obtain ⟨vs, H1, I1, r1, rfl, rfl⟩ := hh
  refine ⟨I1.kIn, ?_⟩
  obtain ⟨u, rfl, ru⟩ := r1.one
  cases ru
  have b := hb s1 [.ref e] I1.kIn (by rw [List.append_nil, FX.len]; rfl)
  rw [List.append_nil] at b
  have P1 := I1.pin (e, oe) (List.mem_append_left _ hp)
  have pin : L2H.PinOk X.stack H1 s1 (e, oe) := ⟨P1.1, P1.2.1, fun hm => (List.mem_cons.mp (I1.stkSub e hm)).elim P1.2.2.1 P1.2.2.2.1, P1.2.2.2.2⟩
  refine wpAny_call (codeAny_mono (FX.run X.A X.stack s1 H1 ⟨[.ref e], []⟩ e t oe c z Q (fun _ _ _ => False) hr pin hz ht hrun I1.env0 b q) fun r s' hq => ?_)
  cases r with
  | error u => obtain ⟨_, _, _, _, _, _, _, _, _, _, h⟩ := hq; exact h.elim
  | ok fl =>
    cases fl with
    | ret u => exact I1.after hq
    | next => exact False.elim hq
    | brk => exact False.elim hq
    | cont => exact False.elim hq
end
end Mp
set_option Elab.async false
set_option linter.all false
set_option maxRecDepth 100000
set_option maxHeartbeats 4000000
/-! Mp5: forms of expressions -/
namespace Mp
open PySem PySem.Spec PyProof.Rows L2
theorem M.bnd_assoc {α β γ : Type} (m : M α) (f : α → M β) (g : β → M γ) : (m.bnd f).bnd g = m.bnd fun x => (f x).bnd g := by
  funext r
  unfold M.bnd
  cases m r with
  | none => rfl
  | some x => cases x <;> rfl
theorem M.ok_bnd {α β : Type} (a : α) (f : α → M β) : (M.ok a).bnd f = f a := rfl
theorem M.get_bnd {α β : Type} (g : Rho → Option α) (f : α → M β) (r : Rho) : ((M.get g).bnd f) r = match g r with | none => none | some a => f a r := by
  unfold M.bnd M.get
  cases g r <;> rfl

/-- neither a slice nor a star -/
def ns : Expr → Bool
  | .Slice .. | .Starred .. => false
  | _ => true
theorem ns_ix {b : Expr} (h : ns b = true) : PlainIx b := by
  intro o i
  cases b <;> first | rfl | cases h
theorem ns_star {e : Expr} (h : ns e = true) (es : List Expr) (env : Env) : starEach (e :: es) env = (false, eval e env) :: starEach es env := by
  cases e <;> first | rfl | cases h
theorem ns_plain {pos : Pos} {env : Env} : ∀ {es : List Expr}, es.all ns = true → (backTo pos (starEach es env)).any (·.1) = false
  | [], _ => rfl
  | e :: es, h => by
    simp only [List.all_cons, Bool.and_eq_true] at h
    rw [ns_star h.1]
    show (false || (backTo pos (starEach es env)).any (·.1)) = false
    rw [ns_plain h.2] <;> rfl
theorem ns_assign {e : Expr} (h : ns e = true) (es : List Expr) (env : Env) : assignEach (e :: es) env = (false, assign e env) :: assignEach es env := by
  cases e <;> first | rfl | cases h
def nc0 : Expr → Bool
  | .Call _ [] [] _ => false
  | _ => true
theorem nc0_attr {o : Expr} (h : nc0 o = true) (n : Str) (env : Env) : attributeBase o n env (eval o env) = eval o env := by
  unfold attributeBase
  split
  · cases h
  · rfl
/-- the walk of an iterable in a set display is none of ours -/
def nset : Expr → Bool
  | .Set .. => false
  | _ => true
theorem nset_folded {e : Expr} (h : nset e = true) (env : Env) (x : Value) : foldedSetIterable e env x = pure x := by
  cases e <;> first | rfl | cases h
theorem nset_marks {e : Expr} (h : nset e = true) (op : CmpOp) : behindInMarks op e = false := by
  cases e <;> first | rfl | cases h

/-- an exception of the class c, at its address -/
structure Tab where
  fns : List (Str × List Str)
  blt : List Str
  cst : List (Str × Int)
  exs : List (Str × Nat)
  kls : List (Nat × Str) := []
  nx : Nat := 0
/-- an own exception class -/
structure ExcAt (X : Cx) (x : Str) (C : Addr) : Prop where
  q : ∃ (bmB : List Value) (B newId initId : String), ExcBaseFacts B newId initId bmB ∧ PySem.W.excIn X.K C bmB newId = true
  m : X.mg x = some (.ref C)
  k : PySem.W.keepIn X.K (.ref C) = true
  r : Raises X (.ref C)
def wx (cl : Nat → Addr) (wE : Wish) : WX := fun cls d σ H => ∃ c, cls = .ref (cl c) ∧ d = none ∧ wE c σ H
/-- how a def leaves things: its value u (as v says), the store -/
structure Ret (fc : Fc) (g' : List GE) (u : V) (v : SV) (H' : Hp) (W : Wd) : Prop where
  sv : SVR fc.w W.F H' W.al u v W.A
  g : GR fc.w W.F H' g' W.al W.B
  nd : (W.A ++ W.B).Nodup
  nf : ∀ a ∈ W.A ++ W.B, ¬ W.F a
  ft : ∀ a, W.F a → ∃ o, H' a = some o
  a0 : ∀ a ∈ W.A, fc.H0 a = none
  b0 : ∀ a ∈ W.B, a ∈ fc.W0.B ∨ fc.H0 a = none
  un : ∀ a o, fc.H0 a = some o → a ∉ fc.W0.B → H' a = some o
  f0 : ∀ a, W.F a → fc.W0.F a ∨ fc.H0 a = none
  fm : ∀ a, fc.W0.F a → W.F a
  al : ∃ more, W.al = fc.W0.al ++ more
  gn : ∀ a, fc.H0 a ≠ none → H' a ≠ none
/-- what an argument is -/
def ArgR (w : World) (W : Wd) (H : Hp) (v : V) : SV → Prop
  | .dat d => Den w W.F H v d
  | .gl n => ∃ a, W.al[n]? = some a ∧ v = .ref a
  | _ => False
inductive ArgsR (w : World) (W : Wd) (H : Hp) : List V → List SV → Prop
  | nil : ArgsR w W H [] []
  | cons {v sv vs svs} : ArgR w W H v sv → ArgsR w W H vs svs → ArgsR w W H (v :: vs) (sv :: svs)
/-- how things stand at a def's entry -/
structure Ent (fc : Fc) (g : List GE) : Prop where
  a : fc.W0.A = []
  g : GR fc.w fc.W0.F fc.H0 g fc.W0.al fc.W0.B
  nd : fc.W0.B.Nodup
  nf : ∀ a ∈ fc.W0.B, ¬ fc.W0.F a
  ft : ∀ a, fc.W0.F a → ∃ o, fc.H0 a = some o
/-- a def's promise by its run -/
def spOf (w : World) (cl : Nat → Addr) (F : Fn) : Sp := fun vs H Q E => ∃ (W0 : Wd) (svs : List SV) (g : List GE), svs.length = F.n ∧ Ent ⟨w, H, W0⟩ g ∧ ArgsR w W0 H vs svs ∧ (F.pu = true → g = []) ∧
  match F.run svs g with
  | none => False
  | some (.ret v g') => ∀ u H' W', Ret ⟨w, H, W0⟩ g' u v H' W' → Q u H'
  | some (.exc c g') => ∀ H' W', Ret ⟨w, H, W0⟩ g' .non (.dat .none) H' W' → E (.ref (cl c)) none H'
/-- a def's promise, kept where no guard stands -/
structure FnG (P : Program) (w : World) (K : PySem.W.Frag) (mg : Str → Option Value) (base : Heap) (k : Nat) (f : Addr) (fd : FuncData) (ps : List Str) (sp : Sp) : Prop where
  len : ∀ vs H Q E, sp vs H Q E → vs.length = ps.length
  run : ∀ (A : Around) (outer : List Env) (s : Shared) (H : Hp) (args : Args) (us : List Value) (vs : List V) (Q : VK) (E : XK), Room k A → A.guards = some [] → Env0 P w K mg base A outer s H → BindsTo s fd args (ps.zip us) → Vals vs us → sp vs H Q E →
    codeAny (model P w) A (.call (.ref f) args) (L2.CR (Mp.CX P w) outer P w H s Q E) s
theorem FnG.mono {P w K mg base j k f fd ps sp} (F : FnG P w K mg base j f fd ps sp) (h : j ≤ k) : FnG P w K mg base k f fd ps sp := ⟨F.len, fun A outer s H args us vs Q E hr => F.run A outer s H args us vs Q E (hr.mono h)⟩
theorem run_fnG {X : Cx} {k : Nat} {f : Addr} {fd : FuncData} {ps : List Str} {sp : Sp} {E : XK} {pins : List (Addr × Obj)} {σ : L2.St} {H : Hp} {s : Shared} {Q : VK} {us : List Value} {vs : List V} (F : FnG X.prog X.w X.K X.mg X.base k f fd ps sp) (hr : Room k X.A) (hg : X.A.guards = some []) (hb : Binds X.K fd ps [])
    (hx : PassesAt (Mp.CX X.prog X.w) X σ E) (I : Inv X pins σ H s) (r : Vals vs us) (h : sp vs H Q E) : wpAny (model X.prog X.w) X.A (call (.ref f) us) (EP X pins σ Q) X.xe s := by
  have hl : us.length = ps.length := by rw [← r.length]; exact F.len _ _ _ _ h
  have b := hb s us I.kIn (by rw [List.append_nil]; exact hl)
  rw [List.append_nil] at b
  refine wpAny_call (codeAny_mono (F.run X.A X.stack s H ⟨us, []⟩ us vs Q E hr hg I.env0 b r h) fun r s' hq => ?_)
  cases r with
  | error e => exact hx pins H s e s' I hq
  | ok fl =>
    cases fl with
    | ret u => exact I.after hq
    | next => exact False.elim hq
    | brk => exact False.elim hq
    | cont => exact False.elim hq
/-- a def of the table, as the text has it -/
structure FnAt (X : Cx) (cl : Nat → Addr) (k : Nat) (x : Str) (ps : List Str) (F : Fn) : Prop where
  ex : ∃ (a : Addr) (fd : FuncData), X.mg x = some (.ref a) ∧ PySem.W.keepIn X.K (.ref a) = true ∧ Binds X.K fd ps [] ∧ FnG X.prog X.w X.K X.mg X.base k a fd ps (spOf X.w cl F)

variable (T : Tab) (Fs : Nat → Fn) (cl : Nat → Addr) (fc : Fc) (wE : Wish)
/-- what the context of a piece of code must have -/
structure Good (nf : Nat) (N : List Str) (sc : Scope) (so : Str → Bool) (X : Cx) : Prop where
  N : X.N = N
  so : ∀ x, so x = true → X.fn x = true
  nd : X.N.Nodup
  sc : X.env.scope = sc
  calm : X.calm = true
  w : X.w = fc.w
  room : Room nf X.A
  gd : X.A.guards = some []
  tk : Takes X (wx cl wE)
  blt : ∀ x ∈ T.blt, X.mg x = none
  cst : ∀ p ∈ T.cst, ∃ t, X.mg p.1 = some (.int p.2 t)
  exs : ∀ p ∈ T.exs, ExcAt X p.1 (cl p.2)
  fn : ∀ f x ps, f < nf → T.fns[f]? = some (x, ps) → FnAt X cl nf x ps (Fs f)
  kls : ∀ p ∈ T.kls, KlsAt X cl nf p.2 (Fs p.1)
  exm : ∀ a b, a < T.nx → b < T.nx → PySem.W.exmOne X.K (.ref (cl a)) (.ref (cl b)) = some (b == 0 || a == b)
theorem Good.hu {T Fs cl fc wE nf N sc so X} (g : Good T Fs cl fc wE nf N sc so X) : X.A.units + 64 < cLine := g.room.units

section
variable {T Fs cl fc wE}
variable {nf : Nat} {N : List Str} {sc : Scope} {X : Cx} {ρ : Rho} {W : Wd} {σ : L2.St} {H : Hp} {Q : VK} {pins : List (Addr × Obj)} {s : Shared}
/-- behind an operand -/
theorem run1 {a : Expr} {ma : M Opd} {f : Opd → M Opd} (ha : PE X a (tO fc wE ma)) (I : Inv X pins σ H s) (r : R fc ρ W σ H) (h : ExO fc wE (ma.bnd f) ρ W σ H Q) {P : Value → Shared → Prop}
    (k : ∀ x ρ1 W1 v u H1 s1, Inv X pins σ H1 s1 → RelV v u → R fc ρ1 W1 σ H1 → Stp W H W1 H1 → OR fc W1 H1 σ v x → ExO fc wE (f x) ρ1 W1 σ H1 Q → P u s1) : wpAny (model X.prog X.w) X.A (eval a X.env) P X.xe s := by
  refine thn (ha.run pins s σ H (fun v H1 => ∃ x ρ1 W1, R fc ρ1 W1 σ H1 ∧ Stp W H W1 H1 ∧ OR fc W1 H1 σ v x ∧ ExO fc wE (f x) ρ1 W1 σ H1 Q) I (tO_bnd r h fun x ρ1 v W1 H1 s1 r1 o1 h1 => ⟨x, ρ1, W1, r1, s1, o1, h1⟩)) fun u s1 hh => ?_
  obtain ⟨v, H1, I1, rv, x, ρ1, W1, r1, st, o1, h1⟩ := hh
  exact k x ρ1 W1 v u H1 s1 I1 rv r1 st o1 h1
theorem run2 {a b : Expr} {ma mb : M Opd} {f : Opd → Opd → M Opd} (ha : PE X a (tO fc wE ma)) (hb : PE X b (tO fc wE mb)) (I : Inv X pins σ H s) (r : R fc ρ W σ H) (h : ExO fc wE (ma.bnd fun x => mb.bnd fun y => f x y) ρ W σ H Q) {P : Value → Value → Shared → Prop}
    (k : ∀ x y ρ1 W1 v v2 u u2 H1 s1, Inv X pins σ H1 s1 → RelV v u → RelV v2 u2 → R fc ρ1 W1 σ H1 → Stp W H W1 H1 → OR fc W1 H1 σ v x → OR fc W1 H1 σ v2 y → ExO fc wE (f x y) ρ1 W1 σ H1 Q → P u u2 s1) :
    wpAny (model X.prog X.w) X.A (eval a X.env) (fun u s1 => wpAny (model X.prog X.w) X.A (eval b X.env) (fun u2 s2 => P u u2 s2) X.xe s1) X.xe s := by
  refine run1 ha I r h fun x ρ1 W1 v u H1 s1 I1 rv r1 st o1 h1 => ?_
  refine run1 hb I1 r1 h1 fun y ρ2 W2 v2 u2 H2 s2 I2 rv2 r2 st2 o2 h2 => ?_
  exact k x y ρ2 W2 v v2 u u2 H2 s2 I2 rv rv2 r2 (st.trans st2) (o1.stp st2 r1) o2 h2
/-- a list of arguments -/
theorem runs {es : List Expr} {ms : M (List Opd)} {f : List Opd → M Opd} {pos : Pos} (ha : PA X es (tOs fc wE ms)) (I : Inv X pins σ H s) (r : R fc ρ W σ H) (h : ExO fc wE (ms.bnd f) ρ W σ H Q) {P : List Value → Shared → Prop}
    (k : ∀ xs ρ1 W1 vs us H1 s1, Inv X pins σ H1 s1 → Vals vs us → R fc ρ1 W1 σ H1 → Stp W H W1 H1 → ORs fc W1 H1 σ vs xs → ExO fc wE (f xs) ρ1 W1 σ H1 Q → P us s1) : wpAny (model X.prog X.w) X.A (spliced (backTo pos (starEach es X.env))) P X.xe s := by
  refine thn (ha.run pos pins s σ H (fun vs H1 => ∃ x ρ1 W1, R fc ρ1 W1 σ H1 ∧ Stp W H W1 H1 ∧ ORs fc W1 H1 σ vs x ∧ ExO fc wE (f x) ρ1 W1 σ H1 Q) I (tOs_bnd r h fun x ρ1 v W1 H1 s1 r1 o1 h1 => ⟨x, ρ1, W1, r1, s1, o1, h1⟩)) fun u s1 hh => ?_
  obtain ⟨vs, H1, I1, rv, x, ρ1, W1, r1, st, o1, h1⟩ := hh
  exact k x ρ1 W1 vs u H1 s1 I1 rv r1 st o1 h1
theorem evE_op2 (o : Op) (A B : E) : evE Fs (.op o (.cons A (.cons B .nil))) = (evE Fs A).bnd fun x => (evE Fs B).bnd fun y => .get (opFin o [x, y]) := by
  simp only [evE, evEs, M.bnd_assoc, M.ok_bnd]
theorem evE_op1 (o : Op) (A : E) : evE Fs (.op o (.cons A .nil)) = (evE Fs A).bnd fun x => .get (opFin o [x]) := by
  simp only [evE, evEs, M.bnd_assoc, M.ok_bnd]
/-- two operands, then an operation -/
theorem bin_op {a b : Expr} {A B : E} {o : Op} {f : Value → Value → Sem Value} (ha : PE X a (tO fc wE (evE Fs A))) (hb : PE X b (tO fc wE (evE Fs B))) (hop : OpD X (act2 f) o) (hw : X.w = fc.w) (I : Inv X pins σ H s)
    (h : tO fc wE (evE Fs (.op o (.cons A (.cons B .nil)))) σ H Q) :
    wpAny (model X.prog X.w) X.A (eval a X.env) (fun u s1 => wpAny (model X.prog X.w) X.A (eval b X.env) (fun u2 s2 => wpAny (model X.prog X.w) X.A (f u u2) (EP X pins σ Q) X.xe s2) X.xe s1) X.xe s := by
  obtain ⟨ρ, W, r, h⟩ := h
  rw [evE_op2] at h
  refine run2 ha hb I r h fun x y ρ1 W1 v v2 u u2 H1 s1 I1 rv rv2 r1 st o1 o2 h1 => ?_
  exact op_fin (act := act2 f) hop hw I1 r1 (.cons o1 (.cons o2 .nil)) (.cons rv (.cons rv2 .nil)) h1
theorem un_op {a : Expr} {A : E} {o : Op} {f : Value → Sem Value} (ha : PE X a (tO fc wE (evE Fs A))) (hop : OpD X (act1 f) o) (hw : X.w = fc.w) (I : Inv X pins σ H s)
    (h : tO fc wE (evE Fs (.op o (.cons A .nil))) σ H Q) :
    wpAny (model X.prog X.w) X.A (eval a X.env) (fun u s1 => wpAny (model X.prog X.w) X.A (f u) (EP X pins σ Q) X.xe s1) X.xe s := by
  obtain ⟨ρ, W, r, h⟩ := h
  rw [evE_op1] at h
  refine run1 ha I r h fun x ρ1 W1 v u H1 s1 I1 rv r1 st o1 h1 => ?_
  exact op_fin (act := act1 f) hop hw I1 r1 (.cons o1 .nil) (.cons rv .nil) h1
theorem sx_bin {a b : Expr} {A B : E} {o : Op} {op : Operator} {pos : Pos} (ha : PE X a (tO fc wE (evE Fs A))) (hb : PE X b (tO fc wE (evE Fs B))) (hop : OpD X (act2 (binaryOp op)) o) (hw : X.w = fc.w) :
    PE X (.BinOp a op b pos) (tO fc wE (evE Fs (.op o (.cons A (.cons B .nil))))) :=
  ⟨fun _ _ _ _ _ I h => wpAny_BinOp (bin_op ha hb hop hw I h)⟩
theorem sx_cmp {a b : Expr} {A B : E} {o : Op} {op : CmpOp} {pos : Pos} (ha : PE X a (tO fc wE (evE Fs A))) (hb : PE X b (tO fc wE (evE Fs B))) (hop : OpD X (act2 (compareOp op)) o) (hw : X.w = fc.w) (hn : nset b = true) :
    PE X (.Compare a [op] [b] pos) (tO fc wE (evE Fs (.op o (.cons A (.cons B .nil))))) :=
  ⟨fun _ _ _ _ _ I h => wpAny_Compare1 (bin_op ha hb hop hw I h) (nset_marks hn op)⟩
theorem sx_un {a : Expr} {A : E} {o : Op} {op : UnaryOp} {pos : Pos} (ha : PE X a (tO fc wE (evE Fs A))) (hop : OpD X (act1 (unaryOp op)) o) (hw : X.w = fc.w) :
    PE X (.UnaryOp op a pos) (tO fc wE (evE Fs (.op o (.cons A .nil)))) :=
  ⟨fun _ _ _ _ _ I h => UnaryOp_ (un_op ha hop hw I h)⟩
theorem sx_idx {a b : Expr} {A B : E} {pos : Pos} (ha : PE X a (tO fc wE (evE Fs A))) (hb : PE X b (tO fc wE (evE Fs B))) (hn : ns b = true) (hw : X.w = fc.w) :
    PE X (.Subscript a b pos) (tO fc wE (evE Fs (.op .idx (.cons A (.cons B .nil))))) :=
  ⟨fun _ _ _ _ _ I h => Subscript_ (bin_op ha hb (od_idx (ns_ix hn)) hw I h)⟩
/-- a built-in of one, two arguments -/
theorem sx_blt {x : Str} {f : Value} {e0 : Expr} {es : List Expr} {Es : Es} {o : Op} {p pos : Pos} (hb : bootBuiltins x = some f) (hg : Gl X x) (hm : X.mg x = none) (ha : PA X (e0 :: es) (tOs fc wE (evEs Fs Es))) (hop : OpD X (fun us => call f us) o) (hw : X.w = fc.w) (hns : (e0 :: es).all ns = true)
    (hf : (∃ id, f = .builtin id) ∨ ∃ t, f = .type t) (hx : x ≠ "__name__") (hd : (x == ("__debug__" : Str)) = false) :
    PE X (.Call (.Name x p) (e0 :: es) [] pos) (tO fc wE (evE Fs (.op o Es))) := by
  refine ⟨fun pins s σ H Q I h => ?_⟩
  obtain ⟨ρ, W, r, h⟩ := h
  rw [show evE Fs (.op o Es) = _ from by rw [evE]] at h
  have go : wpAny (model X.prog X.w) X.A (spliced (backTo pos (starEach (e0 :: es) X.env))) (fun us s1 => wpAny (model X.prog X.w) X.A (call f us) (EP X pins σ Q) X.xe s1) X.xe s := runs ha I r h fun xs ρ1 W1 vs us H1 s1 I1 rv r1 st o1 h1 =>
    op_fin (act := fun us => call f us) hop hw I1 r1 o1 rv h1
  refine wpAny_Call_Name_kw (ld_blt I hg hm hb ?_ hx hd)
  simp only [List.all_cons, Bool.and_eq_true] at hns
  rcases hf with ⟨id, rfl⟩ | ⟨t, rfl⟩
  · exact PyProof.Rows.callWith_builtin1 go (ns_star hns.1 _ _) (ns_plain hns.2)
  · exact PyProof.Rows.callWith_type1 go (ns_star hns.1 _ _) (ns_plain hns.2)

/-! ### truth -/
/-- the truth of a dict: given later -/
def DictTru (_ : Cx) : Prop := True
theorem truth_ok (hd : DictTru X) {F : Addr → Prop} {x : V} {u : Value} {d : D} {b : Bool} {Q : Bool → Hp → Prop} (I : Inv X pins σ H s) (c : Cur X.w F H x d b) (r : RelV x u) (hs : ∀ z, d = .str z → z.length ≤ lim) (hnd : ∀ kvs, d ≠ .dict kvs) (q : Q (truth d) H) :
    wpAny (model X.prog X.w) X.A (truthy u) (TP X pins σ Q) X.xe s := by
  cases d with
  | none =>
    refine tru_ok pins s σ H x u Q I r ⟨false, ?_, q⟩
    rcases c with c | ⟨_, _, ⟨_, _, z, _⟩ | ⟨_, _, z, _⟩⟩ | ⟨_, _, _, _, _, _, ⟨_, _, z, _⟩ | ⟨_, _, z, _⟩⟩
    · cases c; rfl
    all_goals cases z
  | bool k =>
    refine tru_ok pins s σ H x u Q I r ⟨k, ?_, q⟩
    rw [c.bool]; rfl
  | int i =>
    refine tru_ok pins s σ H x u Q I r ⟨_, ?_, q⟩
    rw [c.int]; rfl
  | str z =>
    refine tru_ok pins s σ H x u Q I r ⟨_, ?_, q⟩
    rcases c with c | ⟨_, _, ⟨_, _, z, _⟩ | ⟨_, _, z, _⟩⟩ | ⟨_, _, _, _, _, _, ⟨_, _, z, _⟩ | ⟨_, _, z, _⟩⟩
    · cases c; exact ⟨lim_eq ▸ hs _ rfl, rfl⟩
    all_goals cases z
  | list xs =>
    obtain ⟨a, vs, rfl, e, l, _⟩ := c.list
    refine tru_ok pins s σ H _ u Q I r ⟨_, .inl ⟨vs, .of e, ?_⟩, q⟩
    show (!xs.isEmpty) = !vs.isEmpty
    cases vs <;> cases xs <;> simp_all
  | tuple xs =>
    obtain ⟨a, vs, rfl, e, t⟩ := c.tup
    refine tru_ok pins s σ H _ u Q I r ⟨_, .inr (.inl ⟨vs, .of e, ?_⟩), q⟩
    have l := t.len
    show (!xs.isEmpty) = !vs.isEmpty
    cases vs <;> cases xs <;> simp_all
  | dict kvs => exact absurd rfl (hnd kvs)
def ExB (fc : Fc) (wE : Wish) (m : M Bool) (ρ : Rho) (W : Wd) (σ : L2.St) (H : Hp) (Q : Bool → Hp → Prop) : Prop := match m ρ with
  | none => False
  | some (.exc c ρ') => ∀ W' H', Stp W H W' H' → R fc ρ' W' σ H' → wE c σ H'
  | some (.ok b ρ') => ∀ W' H', Stp W H W' H' → R fc ρ' W' σ H' → Q b H'
def tB (fc : Fc) (wE : Wish) (m : M Bool) : TT := fun σ H Q => ∃ ρ W, R fc ρ W σ H ∧ ExB fc wE m ρ W σ H Q
theorem ExB.bnd {α : Type} {ma : M α} {f : α → M Bool} {Q : Bool → Hp → Prop} (h : ExB fc wE (ma.bnd f) ρ W σ H Q) :
    (ma ρ = none → False) ∧ (∀ c ρ', ma ρ = some (.exc c ρ') → ∀ W' H', Stp W H W' H' → R fc ρ' W' σ H' → wE c σ H') ∧
    (∀ a ρ', ma ρ = some (.ok a ρ') → ∀ W' H', Stp W H W' H' → R fc ρ' W' σ H' → ExB fc wE (f a) ρ' W' σ H' Q) := by
  unfold ExB M.bnd at h
  refine ⟨fun e => by rw [e] at h; exact h, fun c ρ' e => by rw [e] at h; exact h, fun a ρ' e W' H' s r => ?_⟩
  rw [e] at h
  unfold ExB
  cases e2 : f a ρ' with
  | none => simp only [e2] at h
  | some x =>
    cases x with
    | exc c ρ2 =>
      simp only [e2] at h
      intro W2 H2 s2 r2
      exact h W2 H2 (s.trans s2) r2
    | ok o ρ2 =>
      simp only [e2] at h
      intro W2 H2 s2 r2
      exact h W2 H2 (s.trans s2) r2
theorem ExB.getB {α : Type} {f : Rho → Option α} {g : α → M Bool} {Q : Bool → Hp → Prop} (h : ExB fc wE (M.bnd (M.get f) g) ρ W σ H Q) : ∃ a, f ρ = some a ∧ ExB fc wE (g a) ρ W σ H Q := by
  unfold ExB M.bnd M.get at h
  cases e : f ρ with
  | none => simp only [e] at h
  | some a => simp only [e] at h; exact ⟨a, rfl, h⟩
theorem ExB.get {f : Rho → Option Bool} {Q : Bool → Hp → Prop} (h : ExB fc wE (M.get f) ρ W σ H Q) : ∃ b, f ρ = some b ∧ ∀ W' H', Stp W H W' H' → R fc ρ W' σ H' → Q b H' := by
  unfold ExB M.get at h
  cases e : f ρ with
  | none => simp only [e] at h
  | some o => simp only [e] at h; exact ⟨o, rfl, h⟩
theorem ExB.ok {b : Bool} {Q : Bool → Hp → Prop} (h : ExB fc wE (M.ok b) ρ W σ H Q) (r : R fc ρ W σ H) : Q b H := h W H (Stp.refl W H) r
/-- behind an operand, in a test -/
theorem run1B {a : Expr} {ma : M Opd} {f : Opd → M Bool} {QB : Bool → Hp → Prop} (ha : PE X a (tO fc wE ma)) (I : Inv X pins σ H s) (r : R fc ρ W σ H) (h : ExB fc wE (ma.bnd f) ρ W σ H QB) {P : Value → Shared → Prop}
    (k : ∀ x ρ1 W1 v u H1 s1, Inv X pins σ H1 s1 → RelV v u → R fc ρ1 W1 σ H1 → Stp W H W1 H1 → OR fc W1 H1 σ v x → ExB fc wE (f x) ρ1 W1 σ H1 QB → P u s1) : wpAny (model X.prog X.w) X.A (eval a X.env) P X.xe s := by
  obtain ⟨h0, hx, hk⟩ := h.bnd
  refine thn (ha.run pins s σ H (fun v H1 => ∃ x ρ1 W1, R fc ρ1 W1 σ H1 ∧ Stp W H W1 H1 ∧ OR fc W1 H1 σ v x ∧ ExB fc wE (f x) ρ1 W1 σ H1 QB) I (tO_of r h0 hx fun x ρ1 e v W1 H1 s1 r1 o1 => ⟨x, ρ1, W1, r1, s1, o1, hk x ρ1 e W1 H1 s1 r1⟩)) fun u s1 hh => ?_
  obtain ⟨v, H1, I1, rv, x, ρ1, W1, r1, st, o1, h1⟩ := hh
  exact k x ρ1 W1 v u H1 s1 I1 rv r1 st o1 h1
/-- the truth of an operand at hand -/
theorem tru_fin (hd : DictTru X) (hw : X.w = fc.w) {x : Opd} {v : V} {u : Value} {QB : Bool → Hp → Prop} (I : Inv X pins σ H s) (rv : RelV v u) (r : R fc ρ W σ H) (o : OR fc W H σ v x) {b : Bool} (e : truO x ρ = some b) (q : QB b H) :
    wpAny (model X.prog X.w) X.A (truthy u) (TP X pins σ QB) X.xe s := by
  unfold truO at e
  split at e
  · next z c he =>
    split at e
    · next hz =>
      cases e
      have cu := o.cur r he
      rw [← hw] at cu
      exact truth_ok hd I cu rv (fun z' h => by cases h; exact hz) (fun _ z => by cases z) q
    · cases e
  · cases e
  · next d c hne hnd he =>
    cases e
    have cu := o.cur r he
    rw [← hw] at cu
    refine truth_ok hd I cu rv (fun z h => ?_) (fun kvs h => ?_) q
    · subst h
      first | exact (hne z rfl).elim | exact (hne z c rfl rfl).elim
    · subst h
      first | exact (hnd kvs rfl).elim | exact (hnd kvs c rfl rfl).elim
  · cases e
/-- a value, then its truth -/
theorem run_tru {a : Expr} {A : E} {QB : Bool → Hp → Prop} (ha : PE X a (tO fc wE (evE Fs A))) (hd : DictTru X) (hw : X.w = fc.w) (I : Inv X pins σ H s) (h : tB fc wE (evB Fs A) σ H QB) :
    wpAny (model X.prog X.w) X.A (eval a X.env) (fun u s1 => wpAny (model X.prog X.w) X.A (truthy u) (TP X pins σ QB) X.xe s1) X.xe s := by
  obtain ⟨ρ, W, r, h⟩ := h
  refine run1B ha I r h fun x ρ1 W1 v u H1 s1 I1 rv r1 st o1 h1 => ?_
  obtain ⟨b, e, q⟩ := h1.get
  exact tru_fin hd hw I1 rv r1 o1 e (q W1 H1 (Stp.refl _ _) r1)
/-- an expression whose test is its value's truth -/
def plainT : Expr → Bool
  | .UnaryOp .Not _ _ | .BoolOp .. | .IfExp .. | .Compare .. => false
  | _ => true
theorem plainT_eq {e : Expr} (h : plainT e = true) (env : Env) (whole : Sem Value) : isTrue e env whole = (do let v ← whole; standAt e.pos; holding [v] (truthy v)) := by
  cases e with
  | UnaryOp op x p => cases op <;> first | rfl | cases h
  | BoolOp => cases h
  | IfExp => cases h
  | Compare => cases h
  | _ => rfl
/-- a test, whatever its whole -/
structure PWe (X : Cx) (e : Expr) (t : TT) : Prop where
  run : ∀ (pins : List (Addr × Obj)) (s : Shared) (σ : L2.St) (H : Hp) (Q : Bool → Hp → Prop), Inv X pins σ H s → t σ H Q → wpAny (model X.prog X.w) X.A (isTrue e X.env (eval e X.env)) (TP X pins σ Q) X.xe s
theorem sx_plainT {a : Expr} {A : E} (ha : PE X a (tO fc wE (evE Fs A))) (hd : DictTru X) (hw : X.w = fc.w) (hp : plainT a = true) : PT X a (tB fc wE (evB Fs A)) :=
  ⟨fun _ _ _ _ _ I h => isTrue_plain (run_tru ha hd hw I h) (plainT_eq hp _ _)⟩
/-- a comparison as a test -/
theorem sx_cmpT {a b : Expr} {A B : E} {o : Op} {op : CmpOp} {pos : Pos} (ha : PE X a (tO fc wE (evE Fs A))) (hb : PE X b (tO fc wE (evE Fs B))) (hop : OpD X (act2 (compareOp op)) o) (hd : DictTru X) (hw : X.w = fc.w) (hn : nset b = true) :
    PT X (.Compare a [op] [b] pos) (tB fc wE (evB Fs (.op o (.cons A (.cons B .nil))))) := by
  refine ⟨fun pins s σ H Q I h => wpAny_isTrue_Compare1 ?_ (nset_marks hn op)⟩
  obtain ⟨ρ, W, r, h⟩ := h
  obtain ⟨h0, hx, hk⟩ := h.bnd
  have := bin_op (Q := fun v H1 => ∃ x ρ1 W1, R fc ρ1 W1 σ H1 ∧ OR fc W1 H1 σ v x ∧ ExB fc wE (.get (truO x)) ρ1 W1 σ H1 Q) ha hb hop hw I (tO_of r h0 hx fun x ρ1 e v W1 H1 s1 r1 o1 => ⟨x, ρ1, W1, r1, o1, hk x ρ1 e W1 H1 s1 r1⟩)
  refine thn this fun u s1 h1 => thn h1 fun u2 s2 h2 => thn h2 fun c s3 h3 => ?_
  obtain ⟨v, H1, I1, rv, x, ρ1, W1, r1, o1, h1⟩ := h3
  obtain ⟨b, e, q⟩ := h1.get
  exact tru_fin hd hw I1 rv r1 o1 e (q W1 H1 (Stp.refl _ _) r1)
end
end Mp
set_option Elab.async false
set_option linter.all false
set_option maxRecDepth 100000
set_option maxHeartbeats 4000000
set_option autoImplicit false
/-! Mp6: forms of expressions, continued -/
namespace Mp
open PySem PySem.Spec PyProof.Rows L2
section
variable {T : Tab} {Fs : Nat → Fn} {cl : Nat → Addr} {fc : Fc} {wE : Wish}
variable {nf : Nat} {N : List Str} {sc : Scope} {X : Cx} {ρ : Rho} {W : Wd} {σ : L2.St} {H : Hp} {Q : VK} {pins : List (Addr × Obj)} {s : Shared}
/-- a constant -/
theorem OR.const {v : V} {d : D} (h : ∀ F H, Den fc.w F H v d) : OR fc W H σ v (.d d) := h _ _
theorem tO_ok {o : Opd} {v : V} (h : tO fc wE (M.ok o) σ H Q) (k : ∀ ρ W, R fc ρ W σ H → OR fc W H σ v o) : Q v H := by
  obtain ⟨ρ, W, r, h⟩ := h
  exact h.ok r (k ρ W r)
theorem sx_int {i : Int} {j pos} : PE X (.Constant (.int i) j pos) (tO fc wE (evE Fs (.k (.int i)))) :=
  ⟨fun pins s σ H Q I h => by rw [evE] at h; exact pe_int.run pins s σ H Q I (tO_ok h fun _ _ _ => Den.int i)⟩
theorem sx_bool {b : Bool} {j pos} : PE X (.Constant (.bool b) j pos) (tO fc wE (evE Fs (.k (.bool b)))) :=
  ⟨fun pins s σ H Q I h => by rw [evE] at h; exact pe_bl.run pins s σ H Q I (tO_ok h fun _ _ _ => Den.bl b)⟩
theorem sx_none {j pos} : PE X (.Constant .none j pos) (tO fc wE (evE Fs (.k .none))) :=
  ⟨fun pins s σ H Q I h => by rw [evE] at h; exact pe_non.run pins s σ H Q I (tO_ok h fun _ _ _ => Den.non)⟩
theorem sx_str {x : Str} {j pos} : PE X (.Constant (.str x) j pos) (tO fc wE (evE Fs (.k (.str x)))) :=
  ⟨fun pins s σ H Q I h => by rw [evE] at h; exact pe_str.run pins s σ H Q I (tO_ok h fun _ _ _ => Den.str x)⟩
theorem sx_glob {x : Str} {i : Int} {t : Tok} {pos} (hg : Gl X x) (hm : X.mg x = some (.int i t)) (hd : (x == ("__debug__" : Str)) = false) : PE X (.Name x pos) (tO fc wE (evE Fs (.glob x (.int i)))) :=
  ⟨fun pins s σ H Q I h => by rw [evE] at h; exact (pe_glob (v := .int i) hg hm ⟨t, rfl⟩ hd).run pins s σ H Q I (tO_ok h fun _ _ _ => Den.int i)⟩
/-- a slot's value -/
theorem slot_at {i : Nat} {o : Opd} (r : R fc ρ W σ H) (e : slotO i ρ = some o) : ∃ v, σ[i]? = some (some v) ∧ OR fc W H σ v o := by
  unfold slotO at e
  split at e
  · next d h =>
    cases e
    obtain ⟨v, _, _, _, h1, _, s, _⟩ := Sl.at r.sl (Rho.at_some h)
    exact ⟨v, h1, s.2⟩
  · next h =>
    cases e
    obtain ⟨v, _, _, _, h1, _, s, _⟩ := Sl.at r.sl (Rho.at_some h)
    exact ⟨v, h1, h1⟩
  · next h =>
    cases e
    obtain ⟨v, _, _, _, h1, _, s, _⟩ := Sl.at r.sl (Rho.at_some h)
    exact ⟨v, h1, h1⟩
  · next h =>
    cases e
    obtain ⟨v, _, _, _, h1, _, s, _⟩ := Sl.at r.sl (Rho.at_some h)
    exact ⟨v, h1, h1⟩
  · next n h =>
    cases e
    obtain ⟨v, _, _, _, h1, _, s, _⟩ := Sl.at r.sl (Rho.at_some h)
    exact ⟨v, h1, s.2⟩
  · next c h =>
    obtain ⟨v, _, _, _, h1, _, s, _⟩ := Sl.at r.sl (Rho.at_some h)
    exact s.elim
  · cases e
theorem sx_nm {i : Nat} {x : Str} {pos} (hN : X.N[i]? = some x) (hv : Vis X.env.scope x) (hd : (x == ("__debug__" : Str)) = false) (hc : (x == ("__classdict__" : Str)) = false) : PE X (.Name x pos) (tO fc wE (evE Fs (.nm i))) := by
  refine ⟨fun pins s σ H Q I h => ?_⟩
  rw [evE] at h
  obtain ⟨ρ, W, r, h⟩ := h
  obtain ⟨o, e, q⟩ := h.get
  obtain ⟨v, e1, o1⟩ := slot_at r e
  exact (pe_var hN hv hd hc).run pins s σ H Q I ⟨v, e1, q v W H (Stp.refl _ _) r o1⟩
theorem sx_fz {i : Nat} {x : Str} {pos} (hN : X.N[i]? = some x) (hv : Vis X.env.scope x) (hd : (x == ("__debug__" : Str)) = false) (hc : (x == ("__classdict__" : Str)) = false) : PE X (.Name x pos) (tO fc wE (evE Fs (.fz i))) := by
  refine ⟨fun pins s σ H Q I h => ?_⟩
  rw [evE] at h
  obtain ⟨ρ, W, r, h⟩ := h
  unfold ExO fzM at h
  cases e : ρ.at i with
  | none => simp only [e] at h
  | some sv =>
    cases sv with
    | dat d =>
      simp only [e] at h
      obtain ⟨v, e1, o1⟩ := slot_at r (i := i) (o := .d d) (by unfold slotO; rw [e])
      exact (pe_var hN hv hd hc).run pins s σ H Q I ⟨v, e1, h v W H (Stp.refl _ _) r o1⟩
    | own d =>
      simp only [e] at h
      obtain ⟨v, W', e1, r', st, dn⟩ := r.freeze (Rho.at_some e) (.inl rfl)
      exact (pe_var hN hv hd hc).run pins s σ H Q I ⟨v, e1, h v W' H st r' dn⟩
    | own2 d =>
      simp only [e] at h
      obtain ⟨v, W', e1, r', st, dn⟩ := r.freeze (Rho.at_some e) (.inr rfl)
      exact (pe_var hN hv hd hc).run pins s σ H Q I ⟨v, e1, h v W' H st r' dn⟩
    | _ => simp only [e] at h
/-! and, or, not, a if c else b -/
theorem ExO.toB {α : Type} {ma : M α} {f : α → M Bool} {g : Bool → M Opd} (h : ExO fc wE ((ma.bnd f).bnd g) ρ W σ H Q) : ExB fc wE (ma.bnd f) ρ W σ H (fun b H' => tO fc wE (g b) σ H' Q) := by
  obtain ⟨h0, hx, hk⟩ := h.bnd
  unfold ExB
  cases e : (ma.bnd f) ρ with
  | none => exact h0 e
  | some x =>
    cases x with
    | exc c ρ' => exact hx c ρ' e
    | ok b ρ' => exact fun W' H' s r => ⟨ρ', W', r, hk b ρ' e W' H' s r⟩
/-- a test, then an operand -/
theorem tO_test {A : E} {g : Bool → M Opd} (h : tO fc wE ((evB Fs A).bnd g) σ H Q) : tB fc wE (evB Fs A) σ H (fun b H' => tO fc wE (g b) σ H' Q) := by
  obtain ⟨ρ, W, r, h⟩ := h
  exact ⟨ρ, W, r, h.toB⟩
theorem sx_ife {c a b : Expr} {C A B : E} {pos} (hc : PT X c (tB fc wE (evB Fs C))) (ha : PE X a (tO fc wE (evE Fs A))) (hb : PE X b (tO fc wE (evE Fs B))) : PE X (.IfExp c a b pos) (tO fc wE (evE Fs (.ife C A B))) := by
  refine ⟨fun pins s σ H Q I h => ?_⟩
  have e : evE Fs (.ife C A B) = (evB Fs C).bnd fun k => if k then evE Fs A else evE Fs B := by simp only [evE, evB, M.bnd_assoc]
  rw [e] at h
  refine wpAny_IfExp (thn (hc.run pins s σ H _ I (tO_test h)) fun k s1 ⟨H1, I1, q1⟩ => ?_)
  cases k with
  | true => exact ha.run pins s1 σ H1 Q I1 q1
  | false => exact hb.run pins s1 σ H1 Q I1 q1
theorem datO_d {x : Opd} {o : Opd} (h : (datO x).map Opd.d = some o) : o = x := by
  cases x with
  | d z => simp [datO] at h; exact h.symm
  | _ => simp [datO] at h
theorem sx_and {a b : Expr} {A B : E} {rest : List Expr} {pos} (hd : DictTru X) (hw : X.w = fc.w) (ha : PE X a (tO fc wE (evE Fs A))) (hb : PE X (.BoolOp .And (b :: rest) pos) (tO fc wE (evE Fs B))) : PE X (.BoolOp .And (a :: b :: rest) pos) (tO fc wE (evE Fs (.and A B))) := by
  refine ⟨fun pins s σ H Q I h => ?_⟩
  rw [evE] at h
  obtain ⟨ρ, W, r, h⟩ := h
  refine BoolOp_and (run1 ha I r h fun x ρ1 W1 v u H1 s1 I1 rv r1 st o1 h1 => ?_)
  obtain ⟨k, e, h2⟩ := h1.getB
  refine thn (tru_fin (QB := fun c H' => c = k ∧ H' = H1) hd hw I1 rv r1 o1 e ⟨rfl, rfl⟩) fun c s2 ⟨H2, I2, ek, eH⟩ => ?_
  subst ek eH
  cases c with
  | true => exact hb.run pins s2 σ H2 Q I2 ⟨ρ1, W1, r1, h2⟩
  | false =>
    simp only [Bool.false_eq_true, if_false] at h2
    obtain ⟨o, e2, q⟩ := h2.get
    have := datO_d e2
    subst this
    exact ⟨v, H2, I2, rv, q v W1 H2 (Stp.refl _ _) r1 o1⟩
theorem sx_or {a b : Expr} {A B : E} {rest : List Expr} {pos} (hd : DictTru X) (hw : X.w = fc.w) (ha : PE X a (tO fc wE (evE Fs A))) (hb : PE X (.BoolOp .Or (b :: rest) pos) (tO fc wE (evE Fs B))) : PE X (.BoolOp .Or (a :: b :: rest) pos) (tO fc wE (evE Fs (.or A B))) := by
  refine ⟨fun pins s σ H Q I h => ?_⟩
  rw [evE] at h
  obtain ⟨ρ, W, r, h⟩ := h
  refine BoolOp_or (run1 ha I r h fun x ρ1 W1 v u H1 s1 I1 rv r1 st o1 h1 => ?_)
  obtain ⟨k, e, h2⟩ := h1.getB
  refine thn (tru_fin (QB := fun c H' => c = k ∧ H' = H1) hd hw I1 rv r1 o1 e ⟨rfl, rfl⟩) fun c s2 ⟨H2, I2, ek, eH⟩ => ?_
  subst ek eH
  cases c with
  | false => exact hb.run pins s2 σ H2 Q I2 ⟨ρ1, W1, r1, h2⟩
  | true =>
    simp only [if_true] at h2
    obtain ⟨o, e2, q⟩ := h2.get
    have := datO_d e2
    subst this
    exact ⟨v, H2, I2, rv, q v W1 H2 (Stp.refl _ _) r1 o1⟩
theorem sx_not {a : Expr} {A : E} {pos} (hd : DictTru X) (hw : X.w = fc.w) (ha : PE X a (tO fc wE (evE Fs A))) : PE X (.UnaryOp .Not a pos) (tO fc wE (evE Fs (.not A))) := by
  refine ⟨fun pins s σ H Q I h => ?_⟩
  rw [evE] at h
  obtain ⟨ρ, W, r, h⟩ := h
  refine UnaryOp_ (run1 ha I r h fun x ρ1 W1 v u H1 s1 I1 rv r1 st o1 h1 => ?_)
  obtain ⟨k, e, h2⟩ := h1.getB
  refine not_of (thn (tru_fin (QB := fun c H' => c = k ∧ H' = H1) hd hw I1 rv r1 o1 e ⟨rfl, rfl⟩) fun c s2 ⟨H2, I2, ek, eH⟩ => ?_)
  subst ek eH
  exact ⟨.bl (!c), H2, I2, rfl, h2.ok r1 (Den.bl _)⟩
/-! as tests -/
theorem sx_ifeT {c a b : Expr} {C A B : E} {pos} (hc : PT X c (tB fc wE (evB Fs C))) (ha : PT X a (tB fc wE (evB Fs A))) (hb : PT X b (tB fc wE (evB Fs B))) : PT X (.IfExp c a b pos) (tB fc wE (evB Fs (.ife C A B))) := by
  refine ⟨fun pins s σ H Q I h => ?_⟩
  obtain ⟨ρ, W, r, h⟩ := h
  have e : evB Fs (.ife C A B) = (evB Fs C).bnd fun k => if k then evB Fs A else evB Fs B := by
    simp only [evE, evB, M.bnd_assoc]
    congr 1; funext x; congr 1; funext k
    cases k <;> rfl
  rw [e] at h
  obtain ⟨h0, hx, hk⟩ := h.bnd
  have t : tB fc wE (evB Fs C) σ H (fun b H' => tB fc wE (if b then evB Fs A else evB Fs B) σ H' Q) := by
    refine ⟨ρ, W, r, ?_⟩
    unfold ExB
    cases e : evB Fs C ρ with
    | none => exact h0 e
    | some x => cases x with
      | exc c ρ' => exact hx c ρ' e
      | ok b ρ' => exact fun W' H' s r => ⟨ρ', W', r, hk b ρ' e W' H' s r⟩
  show wpAny (model X.prog X.w) X.A (do if ← isTrue c X.env (eval c X.env) then isTrue a X.env (eval a X.env) else isTrue b X.env (eval b X.env)) _ _ _
  refine wpAny_bind (thn (hc.run pins s σ H _ I t) fun k s1 ⟨H1, I1, q1⟩ => ?_)
  cases k with
  | true => exact ha.run pins s1 σ H1 Q I1 q1
  | false => exact hb.run pins s1 σ H1 Q I1 q1
/-- the truth of an and: what the values say -/
theorem evB_and (A B : E) (ρ : Rho) {z : R1 Bool} (h : evB Fs (.and A B) ρ = some z) : ((evB Fs A).bnd fun k => if k then evB Fs B else M.ok false) ρ = some z := by
  unfold evB at h ⊢
  simp only [evE, M.bnd_assoc] at h ⊢
  unfold M.bnd at h ⊢
  cases e : evE Fs A ρ with
  | none => simp [e] at h
  | some x =>
    cases x with
    | exc c ρ' => simpa [e] using h
    | ok x ρ' =>
      simp only [e] at h ⊢
      unfold M.get at h ⊢
      cases e2 : truO x ρ' with
      | none => simp [e2] at h
      | some k =>
        simp only [e2] at h ⊢
        cases k with
        | true => simpa using h
        | false =>
          simp only [Bool.false_eq_true, if_false] at h ⊢
          cases e3 : (datO x).map Opd.d with
          | none => simp [e3] at h
          | some o =>
            have := datO_d e3
            subst this
            simp only [e3, e2, Option.some.injEq] at h
            rw [← h]; rfl
theorem evB_or (A B : E) (ρ : Rho) {z : R1 Bool} (h : evB Fs (.or A B) ρ = some z) : ((evB Fs A).bnd fun k => if k then M.ok true else evB Fs B) ρ = some z := by
  unfold evB at h ⊢
  simp only [evE, M.bnd_assoc] at h ⊢
  unfold M.bnd at h ⊢
  cases e : evE Fs A ρ with
  | none => simp [e] at h
  | some x =>
    cases x with
    | exc c ρ' => simpa [e] using h
    | ok x ρ' =>
      simp only [e] at h ⊢
      unfold M.get at h ⊢
      cases e2 : truO x ρ' with
      | none => simp [e2] at h
      | some k =>
        simp only [e2] at h ⊢
        cases k with
        | false => simpa using h
        | true =>
          simp only [if_true] at h ⊢
          cases e3 : (datO x).map Opd.d with
          | none => simp [e3] at h
          | some o =>
            have := datO_d e3
            subst this
            simp only [e3, e2, Option.some.injEq] at h
            rw [← h]; rfl
theorem tB_imp {m m' : M Bool} {Q : Bool → Hp → Prop} (hm : ∀ ρ z, m ρ = some z → m' ρ = some z) (h : tB fc wE m σ H Q) : tB fc wE m' σ H Q := by
  obtain ⟨ρ, W, r, h⟩ := h
  refine ⟨ρ, W, r, ?_⟩
  unfold ExB at h ⊢
  cases e : m ρ with
  | none => rw [e] at h; exact h.elim
  | some z => rw [hm ρ z e]; rw [e] at h; exact h
theorem tB_test {A : E} {g : Bool → M Bool} {Q : Bool → Hp → Prop} (h : tB fc wE ((evB Fs A).bnd g) σ H Q) : tB fc wE (evB Fs A) σ H (fun b H' => tB fc wE (g b) σ H' Q) := by
  obtain ⟨ρ, W, r, h⟩ := h
  obtain ⟨h0, hx, hk⟩ := h.bnd
  refine ⟨ρ, W, r, ?_⟩
  unfold ExB
  cases e : evB Fs A ρ with
  | none => exact h0 e
  | some x => cases x with
    | exc c ρ' => exact hx c ρ' e
    | ok b ρ' => exact fun W' H' s r => ⟨ρ', W', r, hk b ρ' e W' H' s r⟩
theorem tB_ok {b : Bool} {Q : Bool → Hp → Prop} (h : tB fc wE (M.ok b) σ H Q) : Q b H := by
  obtain ⟨ρ, W, r, h⟩ := h
  exact h.ok r
theorem sx_andT {a b : Expr} {A B : E} {rest : List Expr} {pos} (ha : PT X a (tB fc wE (evB Fs A))) (hb : PW X (.BoolOp .And (b :: rest) pos) (tB fc wE (evB Fs B))) : PW X (.BoolOp .And (a :: b :: rest) pos) (tB fc wE (evB Fs (.and A B))) := by
  refine ⟨fun wh pins s σ H Q I h => ?_⟩
  refine isTrue_and (thn (ha.run pins s σ H _ I (tB_test (tB_imp (evB_and A B) h))) fun c s1 ⟨H1, I1, q1⟩ => ?_)
  cases c with
  | true => exact hb.run wh pins s1 σ H1 Q I1 q1
  | false => exact ⟨H1, I1, tB_ok q1⟩
theorem sx_orT {a b : Expr} {A B : E} {rest : List Expr} {pos} (ha : PT X a (tB fc wE (evB Fs A))) (hb : PW X (.BoolOp .Or (b :: rest) pos) (tB fc wE (evB Fs B))) : PW X (.BoolOp .Or (a :: b :: rest) pos) (tB fc wE (evB Fs (.or A B))) := by
  refine ⟨fun wh pins s σ H Q I h => ?_⟩
  refine isTrue_or (thn (ha.run pins s σ H _ I (tB_test (tB_imp (evB_or A B) h))) fun c s1 ⟨H1, I1, q1⟩ => ?_)
  cases c with
  | false => exact hb.run wh pins s1 σ H1 Q I1 q1
  | true => exact ⟨H1, I1, tB_ok q1⟩
theorem evB_not (A : E) (ρ : Rho) {z : R1 Bool} (h : evB Fs (.not A) ρ = some z) : ((evB Fs A).bnd fun k => M.ok (!k)) ρ = some z := by
  unfold evB at h ⊢
  simp only [evE, M.bnd_assoc] at h ⊢
  unfold M.bnd at h ⊢
  cases e : evE Fs A ρ with
  | none => simp [e] at h
  | some x =>
    cases x with
    | exc c ρ' => simpa [e] using h
    | ok x ρ' =>
      simp only [e] at h ⊢
      unfold M.get at h ⊢
      cases e2 : truO x ρ' with
      | none => simp [e2] at h
      | some k =>
        simp only [e2] at h ⊢
        rw [← h]; rfl
theorem sx_notT {a : Expr} {A : E} {pos} (ha : PT X a (tB fc wE (evB Fs A))) : PT X (.UnaryOp .Not a pos) (tB fc wE (evB Fs (.not A))) := by
  refine ⟨fun pins s σ H Q I h => ?_⟩
  refine isTrue_not (thn (ha.run pins s σ H _ I (tB_test (tB_imp (evB_not A) h))) fun c s1 ⟨H1, I1, q1⟩ => ⟨H1, I1, tB_ok q1⟩)
end
end Mp
set_option Elab.async false
set_option linter.all false
set_option maxRecDepth 100000
set_option maxHeartbeats 4000000
set_option autoImplicit false
/-! Mp7: calls of defs; displays; slices -/
namespace Mp
open PySem PySem.Spec PyProof.Rows L2
section
variable {T : Tab} {Fs : Nat → Fn} {cl : Nat → Addr} {fc : Fc} {wE : Wish}
variable {nf : Nat} {N : List Str} {sc : Scope} {X : Cx} {ρ : Rho} {W : Wd} {σ : L2.St} {H : Hp} {Q : VK} {pins : List (Addr × Obj)} {s : Shared}
theorem args_noborrow : ∀ {vs os svs}, ORs fc W H σ vs os → argsSV ρ os = some (svs, false) → ArgsR fc.w W H vs svs
  | _, _, _, .nil, e => by simp only [argsSV, Option.some.injEq, Prod.mk.injEq] at e; obtain ⟨rfl, _⟩ := e; exact .nil
  | _, _, _, .cons (o := o) (os := os) a t, e => by
    simp only [argsSV] at e
    cases e1 : argSV ρ o with
    | none => simp [e1] at e
    | some x =>
      cases e2 : argsSV ρ os with
      | none => simp [e1, e2] at e
      | some y =>
        obtain ⟨sv, b⟩ := x
        obtain ⟨svs, c⟩ := y
        simp only [e1, e2, Option.some.injEq, Prod.mk.injEq, Bool.or_eq_false_iff] at e
        obtain ⟨rfl, rfl, rfl⟩ := e
        refine .cons ?_ (args_noborrow t e2)
        cases o with
        | d x => simp only [argSV, Option.some.injEq, Prod.mk.injEq] at e1; obtain ⟨rfl, _⟩ := e1; exact a
        | p i => simp only [argSV] at e1; split at e1 <;> simp at e1
        | g n => simp only [argSV, Option.some.injEq, Prod.mk.injEq] at e1; obtain ⟨rfl, _⟩ := e1; exact a
        | ex c => exact a.elim
/-- all own things lent -/
theorem args_borrow (r : R fc ρ W σ H) : ∀ {vs os svs b}, ORs fc W H σ vs os → argsSV ρ os = some (svs, b) → svs.any SV.isGl = false → ArgsR fc.w ⟨fun a => W.F a ∨ a ∈ W.A, [], [], []⟩ H vs svs
  | _, _, _, _, .nil, e, _ => by simp only [argsSV, Option.some.injEq, Prod.mk.injEq] at e; obtain ⟨rfl, _⟩ := e; exact .nil
  | _, _, _, _, .cons (o := o) (os := os) a t, e, ng => by
    have kp : Kp W.F (fun a => W.F a ∨ a ∈ W.A) H H := ⟨fun _ h => .inl h, fun _ _ _ h => h, fun _ _ h => h⟩
    simp only [argsSV] at e
    cases e1 : argSV ρ o with
    | none => simp [e1] at e
    | some x =>
      cases e2 : argsSV ρ os with
      | none => simp [e1, e2] at e
      | some y =>
        obtain ⟨sv, b⟩ := x
        obtain ⟨svs, c⟩ := y
        simp only [e1, e2, Option.some.injEq, Prod.mk.injEq] at e
        obtain ⟨rfl, rfl⟩ := e
        simp only [List.any_cons, Bool.or_eq_false_iff] at ng
        refine .cons ?_ (args_borrow r t e2 ng.2)
        cases o with
        | d x => simp only [argSV, Option.some.injEq, Prod.mk.injEq] at e1; obtain ⟨rfl, _⟩ := e1; exact Den.kp kp a
        | p i =>
          simp only [argSV] at e1
          have a' : σ[i]? = some (some _) := a
          split at e1
          · rename_i d hd
            simp only [Option.some.injEq, Prod.mk.injEq] at e1
            obtain ⟨rfl, _⟩ := e1
            obtain ⟨v', A1, A2, A3, h1, h2, s, _⟩ := Sl.at r.sl (Rho.at_some hd)
            rw [a'] at h1; cases h1
            obtain ⟨p, rfl, o⟩ := s
            exact (o.kp kp fun _ h => h).fz (.inr (by rw [h2]; simp))
          · rename_i d hd
            simp only [Option.some.injEq, Prod.mk.injEq] at e1
            obtain ⟨rfl, _⟩ := e1
            obtain ⟨v', A1, A2, A3, h1, h2, s, _⟩ := Sl.at r.sl (Rho.at_some hd)
            rw [a'] at h1; cases h1
            obtain ⟨p, rfl, o⟩ := s
            exact (o.kp kp fun _ h => h).fz (.inr (by rw [h2]; simp))
          · rename_i d hd
            simp only [Option.some.injEq, Prod.mk.injEq] at e1
            obtain ⟨rfl, _⟩ := e1
            obtain ⟨v', A1, A2, A3, h1, h2, s, _⟩ := Sl.at r.sl (Rho.at_some hd)
            rw [a'] at h1; cases h1
            exact (Own2.kp kp (fun _ _ _ h => h) s).fz fun a ha => .inr (by rw [h2]; simp [ha])
          · cases e1
        | g n => simp only [argSV, Option.some.injEq, Prod.mk.injEq] at e1; obtain ⟨rfl, _⟩ := e1; simp [SV.isGl] at ng
        | ex c => exact a.elim
theorem ArgsR.len {w W H} : ∀ {vs svs}, ArgsR w W H vs svs → vs.length = svs.length
  | _, _, .nil => rfl
  | _, _, .cons _ t => by simp [ArgsR.len t]
/-- behind a call that may change the store -/
theorem R.afterG (r : R fc ρ W σ H) {g' u v H' W'} (t : Ret ⟨fc.w, H, ⟨W.F, [], W.B, W.al⟩⟩ g' u v H' W') :
    R fc { ρ with g := g' } ⟨W'.F, W.A, W'.B, W'.al⟩ σ H' ∧ Stp W H ⟨W'.F, W.A, W'.B, W'.al⟩ H' := by
  obtain ⟨more, eal⟩ := t.al
  have un : ∀ a o, H a = some o → a ∉ W.B → H' a = some o := t.un
  have dis : ∀ a ∈ W.A, a ∉ W.B := fun a ha hb => by
    have := r.nd
    rw [List.nodup_append] at this
    exact this.2.2 a ha a hb rfl
  have nB' : ∀ a ∈ W.A, a ∉ W'.B := fun a ha hb => by
    rcases t.b0 a hb with h | h
    · exact dis a ha h
    · obtain ⟨o, e, _⟩ := r.thereA a ha
      have h' : H a = none := h
      rw [e] at h'; cases h'
  have nF' : ∀ a ∈ W.A, ¬ W'.F a := fun a ha f => by
    rcases t.f0 a f with h | h
    · exact r.nf a (List.mem_append_left _ ha) h
    · obtain ⟨o, e, _⟩ := r.thereA a ha
      have h' : H a = none := h
      rw [e] at h'; cases h'
  have kp : Kp W.F W'.F H H' := ⟨t.fm, fun a o f h => un a o h fun z => r.nf a (List.mem_append_right _ z) f, fun a xs h => un a _ h (r.tup h).2⟩
  have sl := Sl.kp (more := more) kp (fun a ha o h => un a o h (dis a ha)) r.sl
  have eal' : W'.al = W.al ++ more := eal
  have h0 : ∀ a, H a = none → fc.H0 a = none := fun a h => r.h0 h
  refine ⟨⟨by rw [← eal'] at sl; exact sl, t.g, ?_, fun a ha f => ?_, t.ft, r.a0, fun a ha => ?_, fun a o h hb => ?_, fun a f => ?_, fun a f => t.fm a (r.fm a f), ?_, fun a h => t.gn a (r.gn a h)⟩,
    ⟨t.fm, un, fun a f => ?_, fun _ h => .inl h, t.b0, ⟨more, eal'⟩, t.gn⟩⟩
  · rw [List.nodup_append]
    have n1 := r.nd
    have n2 := t.nd
    rw [List.nodup_append] at n1 n2
    exact ⟨n1.1, n2.2.1, fun a ha b hb z => nB' a ha (z ▸ hb)⟩
  · rcases List.mem_append.mp ha with ha | ha
    · exact nF' a ha f
    · exact t.nf a (List.mem_append_right _ ha) f
  · rcases t.b0 a ha with h | h
    · exact r.b0 a h
    · exact .inr (h0 a h)
  · by_cases hB : a ∈ W.B
    · rcases r.b0 a hB with z | z
      · exact absurd z hb
      · rw [h] at z; cases z
    · exact un a o (r.un a o h hb) hB
  · rcases t.f0 a f with h | h
    · exact r.f0 a h
    · exact .inr (h0 a h)
  · obtain ⟨m, e⟩ := r.al
    exact ⟨m ++ more, by show W'.al = _; rw [eal', e, List.append_assoc]⟩
  · rcases t.f0 a f with h | h
    · exact .inl h
    · exact .inr (.inr h)
/-- behind a call that leaves the store -/
theorem R.afterP (r : R fc ρ W σ H) {F0 : Addr → Prop} {g' u v H' W'} (hF : ∀ a, F0 a → W.F a ∨ a ∈ W.A) (t : Ret ⟨fc.w, H, ⟨F0, [], [], []⟩⟩ g' u v H' W') : Same H H' := fun a o h => t.un a o h (by simp)
theorem R.afterP0 (r : R fc ρ W σ H) {g' u v H' W'} (t : Ret ⟨fc.w, H, ⟨W.F, [], [], []⟩⟩ g' u v H' W') : R fc ρ { W with F := W'.F } σ H' ∧ Stp W H { W with F := W'.F } H' :=
  r.grow (fun a o h => t.un a o h (by simp)) W'.F t.fm fun a f => by
    rcases t.f0 a f with h | h
    · exact .inl h
    · exact .inr ⟨h, t.ft a f⟩
/-- how a call stands behind it: the new world, the value with its own addresses -/
structure Back (fc : Fc) (W : Wd) (H : Hp) (u : V) (v : SV) (W2 : Wd) (H' : Hp) : Prop where
  sv : ∃ A2, SVR fc.w W2.F H' W2.al u v A2 ∧ A2.Nodup ∧ ∀ a ∈ A2, H a = none ∧ a ∉ W2.A ∧ a ∉ W2.B ∧ ¬ W2.F a
theorem ArgsR.plain {w W W' H} (hF : ∀ a, W.F a → W'.F a) : ∀ {vs svs}, ArgsR w W H vs svs → svs.any SV.isGl = false → ArgsR w W' H vs svs
  | _, _, .nil, _ => .nil
  | _, _, .cons (sv := sv) c t, h => by
    simp only [List.any_cons, Bool.or_eq_false_iff] at h
    refine .cons ?_ (ArgsR.plain hF t h.2)
    cases sv with
    | dat d => exact Den.kp ⟨hF, fun _ _ _ h => h, fun _ _ h => h⟩ c
    | gl n => simp [SV.isGl] at h
    | _ => exact c.elim
theorem ArgsR.move {w W W' H} (h1 : W.F = W'.F) (h2 : W.al = W'.al) : ∀ {vs svs}, ArgsR w W H vs svs → ArgsR w W' H vs svs
  | _, _, .nil => .nil
  | _, _, .cons (sv := sv) c t => by
    refine .cons ?_ (ArgsR.move h1 h2 t)
    cases sv with
    | dat d => exact Den.kp ⟨fun a h => h1 ▸ h, fun _ _ _ h => h, fun _ _ h => h⟩ (show Den w W.F H _ d from c)
    | gl n => obtain ⟨a, e, ev⟩ := c; exact ⟨a, h2 ▸ e, ev⟩
    | _ => exact c.elim
theorem SVR.out {w F F' H al al' u v A} (kp : Kp F F' H H) (s : SVR w F H al u v A) (h : v.out = true) : SVR w F' H al' u v A := by
  cases v with
  | dat d => exact ⟨s.1, Den.kp kp s.2⟩
  | own d => obtain ⟨a, e, o⟩ := s; exact ⟨a, e, o.kp kp fun _ h => h⟩
  | _ => simp [SV.out] at h
theorem Kp.id {F : Addr → Prop} {H : Hp} : Kp F F H H := ⟨fun _ h => h, fun _ _ _ h => h, fun _ _ h => h⟩
/-- flat results stand under any F -/
theorem SVR.flat {w F F' H al al' u v A} (s : SVR w F H al u v A) (h : svFlat v = true) : SVR w F' H al' u v A := by
  cases v with
  | dat d => exact ⟨s.1, flat_den s.2 h⟩
  | own d =>
    obtain ⟨a, e, hv, ⟨vs, ds, e1, e2, r⟩ | ⟨es, kvs, e1, _⟩⟩ := s
    · subst e1; exact ⟨a, e, hv, .inl ⟨vs, ds, rfl, e2, flat_dens r h⟩⟩
    · subst e1; simp [svFlat] at h
  | _ => simp [svFlat] at h
/-- a def of the table is called -/
theorem call_run {F : Fn} {ps : List Str} {a : Addr} {fd : FuncData} (hF : FnG X.prog X.w X.K X.mg X.base nf a fd ps (spOf X.w cl F)) (hb : Binds X.K fd ps []) (hr : Room nf X.A) (hg : X.A.guards = some []) (tk : Takes X (wx cl wE)) (hw : X.w = fc.w)
    {os : List Opd} {vs : List V} {us : List Value} (I : Inv X pins σ H s) (r : R fc ρ W σ H) (q : ORs fc W H σ vs os) (rv : Vals vs us)
    (h : match doCall F os ρ with
      | none => False
      | some (.exc c ρ') => ∀ W' H', Stp W H W' H' → R fc ρ' W' σ H' → wE c σ H'
      | some (.ok v ρ') => ∀ u W' H', Stp W H W' H' → R fc ρ' W' σ H' → Back fc W H u v W' H' → Q u H') :
    wpAny (model X.prog X.w) X.A (call (.ref a) us) (EP X pins σ Q) X.xe s := by
  unfold doCall at h
  cases ea : argsSV ρ os with
  | none => simp only [ea] at h
  | some z =>
    obtain ⟨svs, b⟩ := z
    simp only [ea] at h
    by_cases hl : svs.length ≠ F.n
    · rw [if_pos hl] at h; exact h.elim
    rw [if_neg hl] at h
    have hl : svs.length = F.n := Decidable.not_not.mp hl
    have fa : ∀ a ∈ W.A, ∃ o, H a = some o := fun a ha => by obtain ⟨o, e, _⟩ := r.thereA a ha; exact ⟨o, e⟩
    have fb : ∀ a ∈ W.B, ∃ o, H a = some o := fun a ha => by obtain ⟨o, e, _⟩ := r.thereB a ha; exact ⟨o, e⟩
    by_cases hp : F.pu = true
    · rw [if_pos hp] at h
      by_cases hgl : svs.any SV.isGl = true
      · rw [if_pos hgl] at h; exact h.elim
      · rw [if_neg hgl] at h
        have hgl' : svs.any SV.isGl = false := by simpa using hgl
        cases b with
        | false =>
          refine run_fnG (E := WE (wx cl wE) σ) hF hr hg hb (passAt tk σ) I rv ⟨⟨W.F, [], [], []⟩, svs, [], hl, ⟨rfl, .nil, by simp, by simp, r.ft⟩, by rw [hw]; exact ArgsR.plain (W := W) (W' := ⟨W.F, [], [], []⟩) (fun _ h => h) (args_noborrow q ea) hgl', fun _ => rfl, ?_⟩
          cases er : F.run svs [] with
          | none => simp only [er] at h
          | some cr =>
            cases cr with
            | exc c g' =>
              simp only [er] at h
              intro H' W' t
              rw [hw] at t
              obtain ⟨r', st⟩ := r.afterP0 t
              exact ⟨c, rfl, rfl, h _ H' st r'⟩
            | ret v g' =>
              simp only [er, Bool.false_and, Bool.false_or] at h
              by_cases ho : v.out = true
              · simp only [ho, Bool.not_true, Bool.false_eq_true, if_false] at h
                intro u H' W' t
                rw [hw] at t
                obtain ⟨r', st⟩ := r.afterP0 t
                refine h u _ H' st r' ⟨⟨W'.A, t.sv.out Kp.id ho, ?_, fun a ha => ⟨t.a0 a ha, fun z => ?_, fun z => ?_, t.nf a (by simp [ha])⟩⟩⟩
                · have n := t.nd
                  rw [List.nodup_append] at n
                  exact n.1
                · obtain ⟨o, e⟩ := fa a z
                  have h' : H a = none := t.a0 a ha
                  rw [e] at h'; cases h'
                · obtain ⟨o, e⟩ := fb a z
                  have h' : H a = none := t.a0 a ha
                  rw [e] at h'; cases h'
              · simp [ho] at h
        | true =>
          refine run_fnG (E := WE (wx cl wE) σ) hF hr hg hb (passAt tk σ) I rv ⟨⟨fun a => W.F a ∨ a ∈ W.A, [], [], []⟩, svs, [], hl, ⟨rfl, .nil, by simp, by simp, fun a f => f.elim (r.ft a) (fa a)⟩, by rw [hw]; exact args_borrow r q ea hgl', fun _ => rfl, ?_⟩
          cases er : F.run svs [] with
          | none => simp only [er] at h
          | some cr =>
            cases cr with
            | exc c g' =>
              simp only [er] at h
              intro H' W' t
              rw [hw] at t
              obtain ⟨r', st⟩ := r.same (fun a o h => t.un a o h (by simp))
              exact ⟨c, rfl, rfl, h _ H' st r'⟩
            | ret v g' =>
              simp only [er, Bool.true_and] at h
              by_cases ho : (!svFlat v || !v.out) = true
              · simp [ho] at h
              · rw [if_neg ho] at h
                simp only [Bool.or_eq_true, Bool.not_eq_true', not_or, Bool.not_eq_false] at ho
                intro u H' W' t
                rw [hw] at t
                obtain ⟨r', st⟩ := r.same (fun a o h => t.un a o h (by simp))
                refine h u _ H' st r' ⟨⟨W'.A, t.sv.flat ho.1, ?_, fun a ha => ⟨t.a0 a ha, fun z => ?_, fun z => ?_, fun z => ?_⟩⟩⟩
                · have n := t.nd
                  rw [List.nodup_append] at n
                  exact n.1
                · obtain ⟨o, e⟩ := fa a z
                  have h' : H a = none := t.a0 a ha
                  rw [e] at h'; cases h'
                · obtain ⟨o, e⟩ := fb a z
                  have h' : H a = none := t.a0 a ha
                  rw [e] at h'; cases h'
                · obtain ⟨o, e⟩ := r.ft a z
                  have h' : H a = none := t.a0 a ha
                  rw [e] at h'; cases h'
    · rw [if_neg hp] at h
      cases b with
      | true => simp at h
      | false =>
        simp only [Bool.false_eq_true, if_false] at h
        have nB : W.B.Nodup := by
          have n := r.nd
          rw [List.nodup_append] at n
          exact n.2.1
        have ar : ArgsR fc.w ⟨W.F, [], W.B, W.al⟩ H vs svs := ArgsR.move (W := W) (W' := ⟨W.F, [], W.B, W.al⟩) rfl rfl (args_noborrow q ea)
        refine run_fnG (E := WE (wx cl wE) σ) hF hr hg hb (passAt tk σ) I rv ⟨⟨W.F, [], W.B, W.al⟩, svs, ρ.g, hl, ⟨rfl, by rw [hw]; exact r.g, nB, fun a ha => r.nf a (List.mem_append_right _ ha), r.ft⟩, by rw [hw]; exact ar, fun z => absurd z hp, ?_⟩
        cases er : F.run svs ρ.g with
        | none => simp only [er] at h
        | some cr =>
          cases cr with
          | exc c g' =>
            simp only [er] at h
            intro H' W' t
            rw [hw] at t
            obtain ⟨r', st⟩ := r.afterG t
            exact ⟨c, rfl, rfl, h _ H' st r'⟩
          | ret v g' =>
            simp only [er] at h
            by_cases ho : v.ret = true
            · rw [if_pos ho] at h
              intro u H' W' t
              rw [hw] at t
              obtain ⟨r', st⟩ := r.afterG t
              have n := t.nd
              rw [List.nodup_append] at n
              refine h u _ H' st r' ⟨⟨W'.A, t.sv, n.1, fun a ha => ⟨t.a0 a ha, fun z => ?_, fun z => n.2.2 a ha a z rfl, t.nf a (by simp [ha])⟩⟩⟩
              obtain ⟨o, e⟩ := fa a z
              have h' : H a = none := t.a0 a ha
              rw [e] at h'; cases h'
            · rw [if_neg ho] at h; exact h.elim
/-- what a call gave, as an operand: own things are frozen -/
theorem Back.opd {W2 : Wd} {H' : Hp} {u : V} {v : SV} {ρ' : Rho} {o : Opd} (b : Back fc W H u v W2 H') (r0 : R fc ρ W σ H) (r : R fc ρ' W2 σ H') (st : Stp W H W2 H') (e : v.opd = some o) : ∃ W3, R fc ρ' W3 σ H' ∧ Stp W H W3 H' ∧ OR fc W3 H' σ u o := by
  obtain ⟨A2, s, nd, ha⟩ := b.sv
  cases v with
  | dat d => cases e; exact ⟨W2, r, st, s.2⟩
  | own d =>
    cases e
    obtain ⟨p, rfl, ow⟩ := s
    obtain ⟨h1, h2, h3, h4⟩ := ha p (by simp)
    obtain ⟨x, hx, _⟩ := ow.there
    have r3 := r.more (fun a => W2.F a ∨ a = p) (fun _ h => .inl h) fun a f => f.elim .inl fun z => .inr (by subst z; exact ⟨h2, h3, r0.h0 h1, x, hx⟩)
    have kp : Kp W2.F (fun a => W2.F a ∨ a = p) H' H' := ⟨fun _ h => .inl h, fun _ _ _ h => h, fun _ _ h => h⟩
    exact ⟨_, r3, ⟨fun a h => .inl (st.fm a h), st.un, fun a f => f.elim (st.fr a) fun z => .inr (.inr (by subst z; exact h1)), st.a', st.b', st.al, st.gone⟩, (ow.kp kp fun _ h => h).fz (.inr rfl)⟩
  | gl n => cases e; exact ⟨W2, r, st, s.2⟩
  | exc c => exact s.elim
  | lck d => cases e
  | own2 d => cases e
/-- f(e, ..) -/
theorem sx_call {f : Nat} {x : Str} {ps : List Str} {e0 : Expr} {es : List Expr} {Es : Es} {p pos : Pos} (hF : FnAt X cl nf x ps (Fs f)) (hr : Room nf X.A) (hgd : X.A.guards = some []) (tk : Takes X (wx cl wE)) (hw : X.w = fc.w) (hg : Gl X x) (hd : (x == ("__debug__" : Str)) = false)
    (ha : PA X (e0 :: es) (tOs fc wE (evEs Fs Es))) (hns : (e0 :: es).all ns = true) :
    PE X (.Call (.Name x p) (e0 :: es) [] pos) (tO fc wE (evE Fs (.call f Es))) := by
  refine ⟨fun pins s σ H Q I h => ?_⟩
  obtain ⟨ρ, W, r, h⟩ := h
  rw [show evE Fs (.call f Es) = _ from by rw [evE]] at h
  obtain ⟨a, fd, hm, hk, hb, hG⟩ := hF.ex
  refine wpAny_Call_Name_kw (ld_glob I hg hm ?_ hd)
  simp only [List.all_cons, Bool.and_eq_true] at hns
  refine PySem.W.callWith_K (h₀ := X.base) I.ok.mod.kin hk (runs ha I r h fun xs ρ1 W1 vs us H1 s1 I1 rv r1 st o1 h1 => ⟨I1.kIn, ?_⟩) (ns_star hns.1 _ _) (ns_plain hns.2)
  refine call_run hG hb hr hgd tk hw I1 r1 o1 rv ?_
  unfold ExO M.bnd M.get at h1
  cases ec : doCall (Fs f) xs ρ1 with
  | none => simp only [ec] at h1
  | some z =>
    cases z with
    | exc c ρ' => simp only [ec] at h1; exact h1
    | ok v ρ' =>
      simp only [ec] at h1
      intro u W' H' st' r' bk
      cases eo : v.opd with
      | none => simp only [eo] at h1
      | some o =>
        simp only [eo] at h1
        obtain ⟨W3, r3, st3, o3⟩ := bk.opd r1 r' st' eo
        exact h1 u W3 H' st3 r3 o3
/-! displays -/
theorem datsO_dens : ∀ {vs os ds}, ORs fc W H σ vs os → datsO os = some ds → Dens fc.w W.F H vs ds
  | _, _, _, .nil, e => by simp [datsO] at e; subst e; exact .nil
  | _, _, _, .cons (o := o) (os := os) a t, e => by
    cases o with
    | d x =>
      simp only [datsO] at e
      cases e2 : datsO os with
      | none => simp [e2] at e
      | some ds =>
        simp [e2] at e
        subst e
        exact .cons a (datsO_dens t e2)
    | _ => simp [datsO] at e
theorem sx_tup {es : List Expr} {Es : Es} {k pos} (ha : PA X es (tOs fc wE (evEs Fs Es))) : PE X (.Tuple es k pos) (tO fc wE (evE Fs (.tup Es))) := by
  refine ⟨fun pins s σ H Q I h => ?_⟩
  rw [evE] at h
  obtain ⟨ρ, W, r, h⟩ := h
  refine (pe_tup ha).run pins s σ H Q I (tOs_bnd r h fun os ρ' vs W' H' st r' o' h' => ?_)
  obtain ⟨o, e, q⟩ := h'.get
  unfold tupFin at e
  cases e1 : datsO os with
  | none => simp [e1] at e
  | some ds =>
    simp only [e1, Option.bind_some] at e
    cases e2 : szTup ds with
    | none => simp [e2] at e
    | some d =>
      simp [e2] at e
      subst e
      obtain ⟨rfl, hz⟩ := szTup_eq e2
      have dn := datsO_dens o' e1
      refine ⟨by rw [dn.len]; exact hz, fun p hp => ?_⟩
      obtain ⟨W3, r3, st3, d3⟩ := r'.take (same_upd hp) (New.tup hp dn)
      exact q _ W3 _ st3 r3 d3
theorem sx_lst {es : List Expr} {Es : Es} {pos} (ha : PA X es (tOs fc wE (evEs Fs Es))) : PE X (.List es pos) (tO fc wE (evE Fs (.lst Es))) := by
  refine ⟨fun pins s σ H Q I h => ?_⟩
  rw [evE] at h
  obtain ⟨ρ, W, r, h⟩ := h
  refine (pe_lst ha).run pins s σ H Q I (tOs_bnd r h fun os ρ' vs W' H' st r' o' h' => ?_)
  obtain ⟨o, e, q⟩ := h'.get
  unfold lstFin at e
  cases e1 : datsO os with
  | none => simp [e1] at e
  | some ds =>
    simp only [e1, Option.bind_some] at e
    cases e2 : szLst ds with
    | none => simp [e2] at e
    | some d =>
      simp [e2] at e
      subst e
      obtain ⟨rfl, hz⟩ := szLst_eq e2
      have dn := datsO_dens o' e1
      refine ⟨by rw [dn.len]; exact hz, fun p hp => ?_⟩
      obtain ⟨W3, r3, st3, d3⟩ := r'.take (same_upd hp) (New.lst hp dn)
      exact q _ W3 _ st3 r3 d3
/-- arguments -/
theorem sx_nil : PA X [] (tOs fc wE (evEs Fs .nil)) := by
  refine ⟨fun pos pins s σ H Q I h => pa_nil.run pos pins s σ H Q I ?_⟩
  rw [evEs] at h
  obtain ⟨ρ, W, r, h⟩ := h
  exact h [] W H (Stp.refl _ _) r .nil
theorem sx_cons {e : Expr} {es : List Expr} {A : E} {Es : Es} (ha : PE X e (tO fc wE (evE Fs A))) (hs : PA X es (tOs fc wE (evEs Fs Es))) (hn : ns e = true) : PA X (e :: es) (tOs fc wE (evEs Fs (.cons A Es))) := by
  refine ⟨fun pos pins s σ H Q I h => (pa_cons ha hs (ns_star hn _ _)).run pos pins s σ H Q I ?_⟩
  rw [evEs] at h
  obtain ⟨ρ, W, r, h⟩ := h
  obtain ⟨h0, hx, hk⟩ := h.bnd
  refine tO_of r h0 hx fun o ρ1 e1 v W1 H1 st1 r1 o1 => ?_
  obtain ⟨g0, gx, gk⟩ := (hk o ρ1 e1 W1 H1 st1 r1).bnd
  refine tOs_of r1 g0 gx fun os ρ2 e2 vs W2 H2 st2 r2 o2 => ?_
  have := gk os ρ2 e2 W2 H2 st2 r2
  exact this (v :: vs) W2 H2 (Stp.refl _ _) r2 (.cons (o1.stp st2 r1) o2)
end
end Mp
set_option Elab.async false
set_option linter.all false
set_option maxRecDepth 100000
set_option maxHeartbeats 4000000
set_option autoImplicit false
/-! Mp8: what is walked; comprehensions -/
namespace Mp
open PySem PySem.Spec PyProof.Rows L2
theorem at_set (r : Rho) (i j : Nat) (v : Option SV) : (r.set i v).at j = if i = j ∧ i < r.sl.length then v else r.at j := by
  unfold Rho.at Rho.set
  simp only [List.getElem?_set]
  by_cases h : i = j
  · subst h
    by_cases hl : i < r.sl.length
    · simp [hl]
    · simp [hl]
  · simp [h]
theorem at_set_ne {r : Rho} {i j : Nat} {v : Option SV} (h : i ≠ j) : (r.set i v).at j = r.at j := by rw [at_set]; simp [h]
theorem set_len (r : Rho) (i : Nat) (v : Option SV) : (r.set i v).sl.length = r.sl.length := by unfold Rho.set; simp
/-! locked slots stay -/
structure Keep (own : List Nat) (r r' : Rho) : Prop where
  len : r'.sl.length = r.sl.length
  lck : ∀ i d, i ∉ own → r.at i = some (.lck d) → r'.at i = some (.lck d)
theorem Keep.refl (own : List Nat) (r : Rho) : Keep own r r := ⟨rfl, fun _ _ _ h => h⟩
theorem Keep.trans {own : List Nat} {a b c : Rho} (h : Keep own a b) (k : Keep own b c) : Keep own a c := ⟨k.len.trans h.len, fun i d n e => k.lck i d n (h.lck i d n e)⟩
def Lk {α : Type} (m : M α) : Prop := ∀ ρ a ρ', m ρ = some (.ok a ρ') → Keep [] ρ ρ'
theorem Lk.ok {α : Type} (a : α) : Lk (M.ok a) := fun ρ a ρ' h => by cases h; exact Keep.refl _ _
theorem Lk.get {α : Type} (f : Rho → Option α) : Lk (M.get f) := fun ρ a ρ' h => by
  unfold M.get at h
  cases e : f ρ with
  | none => simp [e] at h
  | some x => simp [e] at h; obtain ⟨_, rfl⟩ := h; exact Keep.refl _ _
theorem Lk.bnd {α β : Type} {m : M α} {f : α → M β} (h : Lk m) (k : ∀ a, Lk (f a)) : Lk (m.bnd f) := fun ρ b ρ' e => by
  unfold M.bnd at e
  cases e1 : m ρ with
  | none => simp [e1] at e
  | some x =>
    cases x with
    | exc c r => simp [e1] at e
    | ok a r => simp only [e1] at e; exact (h ρ a r e1).trans (k a r b ρ' e)
theorem Lk.fz (i : Nat) : Lk (fzM i) := fun ρ a ρ' e => by
  unfold fzM at e
  split at e <;> first | cases e | skip
  · exact Keep.refl _ _
  all_goals
    rename_i d' hd
    refine ⟨set_len _ _ _, fun j d _ h => ?_⟩
    rw [at_set]
    by_cases hj : i = j
    · subst hj; rw [hd] at h; cases h
    · simp [hj, h]
theorem Lk.call (F : Fn) (os : List Opd) : Lk (doCall F os) := fun ρ a ρ' e => by
  unfold doCall at e
  repeat' (split at e <;> try (cases e; done))
  all_goals (first | cases e | skip)
  all_goals exact ⟨rfl, fun _ _ _ h => h⟩
theorem wipe_len {r : Rho} : ∀ {own : List Nat}, (wipe r own).sl.length = r.sl.length
  | [] => rfl
  | o :: own => by unfold wipe; rw [set_len, wipe_len]
theorem back_len {r0 r : Rho} : ∀ {own : List Nat}, (back r0 r own).sl.length = r.sl.length
  | [] => rfl
  | o :: own => by unfold back; rw [set_len, back_len]
theorem wipe_at {r : Rho} : ∀ {own : List Nat} {i : Nat}, i ∉ own → (wipe r own).at i = r.at i
  | [], _, _ => rfl
  | o :: own, i, h => by
    simp only [List.mem_cons, not_or] at h
    unfold wipe
    rw [at_set_ne (Ne.symm h.1), wipe_at h.2]
theorem back_at {r0 r : Rho} : ∀ {own : List Nat} {i : Nat}, i ∉ own → (back r0 r own).at i = r.at i
  | [], _, _ => rfl
  | o :: own, i, h => by
    simp only [List.mem_cons, not_or] at h
    unfold back
    rw [at_set_ne (Ne.symm h.1), back_at h.2]
theorem back_own {r0 r : Rho} (hl : r.sl.length = r0.sl.length) {i : Nat} (hi : i < r0.sl.length) : ∀ {own : List Nat}, i ∈ own → (back r0 r own).at i = r0.at i
  | [], h => by simp at h
  | o :: own, h => by
    unfold back
    rw [at_set]
    by_cases ho : o = i
    · subst ho; rw [if_pos ⟨rfl, by rw [back_len, hl]; exact hi⟩]
    · rw [if_neg (fun z => ho z.1)]
      rcases List.mem_cons.mp h with h | h
      · exact absurd h.symm ho
      · exact back_own hl hi h
theorem at_lt {r : Rho} {i : Nat} {v : SV} (h : r.at i = some v) : i < r.sl.length := (List.getElem?_eq_some_iff.mp (Rho.at_some h)).1
theorem wr_len {r r' : Rho} {i : Nat} {v : SV} (h : wr r i v = some r') : r'.sl.length = r.sl.length := by
  unfold wr at h
  split at h
  · cases h
  · cases h; exact set_len _ _ _
theorem wr_at {r r' : Rho} {i j : Nat} {v : SV} (h : wr r i v = some r') : (i ≠ j → r'.at j = r.at j) ∧ (∀ d, r.at j = some (.lck d) → r'.at j = some (.lck d)) := by
  unfold wr at h
  split at h
  · cases h
  · rename_i hn
    cases h
    refine ⟨at_set_ne, fun d e => ?_⟩
    by_cases hj : i = j
    · subst hj; exact (hn d e).elim
    · rw [at_set_ne hj]; exact e
mutual
theorem asgT_len {r r' : Rho} : ∀ {t : Tg} {d : D}, asgT t d r = some r' → r'.sl.length = r.sl.length
  | .nm i, d, h => by rw [asgT] at h; exact wr_len h
  | .tup ts, .tuple ds, h => by rw [asgT] at h; exact asgTs_len h
  | .tup ts, .none, h => by simp [asgT] at h
  | .tup ts, .bool _, h => by simp [asgT] at h
  | .tup ts, .int _, h => by simp [asgT] at h
  | .tup ts, .str _, h => by simp [asgT] at h
  | .tup ts, .list _, h => by simp [asgT] at h
  | .tup ts, .dict _, h => by simp [asgT] at h
theorem asgTs_len {r r' : Rho} : ∀ {ts : List Tg} {ds : List D}, asgTs ts ds r = some r' → r'.sl.length = r.sl.length
  | [], [], h => by rw [asgTs] at h; cases h; rfl
  | t :: ts, d :: ds, h => by
    rw [asgTs] at h
    cases e : asgT t d r with
    | none => simp [e] at h
    | some r1 => simp only [e] at h; exact (asgTs_len h).trans (asgT_len e)
  | [], _ :: _, h => by simp [asgTs] at h
  | _ :: _, [], h => by simp [asgTs] at h
end
mutual
theorem asgT_at {own : List Nat} {r r' : Rho} : ∀ {t : Tg} {d : D}, asgT t d r = some r' → (∀ j, tgIn own t = true → j ∉ own → r'.at j = r.at j) ∧ ∀ j d, r.at j = some (.lck d) → r'.at j = some (.lck d)
  | .nm i, d, h => by
    rw [asgT] at h
    refine ⟨fun j ho hj => (wr_at h).1 ?_, fun j d e => (wr_at h).2 d e⟩
    rintro rfl
    simp only [tgIn, List.contains_iff_mem] at ho
    exact hj ho
  | .tup ts, .tuple ds, h => by
    rw [asgT] at h
    have := asgTs_at (own := own) h
    exact ⟨fun j ho hj => this.1 j (by simpa [tgIn] using ho) hj, this.2⟩
  | .tup ts, .none, h => by simp [asgT] at h
  | .tup ts, .bool _, h => by simp [asgT] at h
  | .tup ts, .int _, h => by simp [asgT] at h
  | .tup ts, .str _, h => by simp [asgT] at h
  | .tup ts, .list _, h => by simp [asgT] at h
  | .tup ts, .dict _, h => by simp [asgT] at h
theorem asgTs_at {own : List Nat} {r r' : Rho} : ∀ {ts : List Tg} {ds : List D}, asgTs ts ds r = some r' → (∀ j, tgsIn own ts = true → j ∉ own → r'.at j = r.at j) ∧ ∀ j d, r.at j = some (.lck d) → r'.at j = some (.lck d)
  | [], [], h => by rw [asgTs] at h; cases h; exact ⟨fun _ _ _ => rfl, fun _ _ e => e⟩
  | t :: ts, d :: ds, h => by
    rw [asgTs] at h
    cases e : asgT t d r with
    | none => simp [e] at h
    | some r1 =>
      simp only [e] at h
      have a := asgT_at (own := own) e
      have b := asgTs_at (own := own) h
      refine ⟨fun j ho hj => ?_, fun j d e => b.2 j d (a.2 j d e)⟩
      simp only [tgsIn, Bool.and_eq_true] at ho
      rw [b.1 j ho.2 hj, a.1 j ho.1 hj]
  | [], _ :: _, h => by simp [asgTs] at h
  | _ :: _, [], h => by simp [asgTs] at h
end
theorem goes_cons {f : D → M (List D)} {x : D} {xs : List D} {ρ ρ' : Rho} {a : List D} (h : goes f (x :: xs) ρ = some (.ok a ρ')) : ∃ y r ys, f x ρ = some (.ok y r) ∧ goes f xs r = some (.ok ys ρ') ∧ a = y ++ ys := by
  unfold goes M.bnd at h
  cases e : f x ρ with
  | none => simp [e] at h
  | some z =>
    cases z with
    | exc c r => simp [e] at h
    | ok y r =>
      simp only [e] at h
      cases e2 : goes f xs r with
      | none => simp [e2] at h
      | some z =>
        cases z with
        | exc c r => simp [e2] at h
        | ok ys r2 =>
          simp only [e2, M.ok, Option.some.injEq, R1.ok.injEq] at h
          obtain ⟨rfl, rfl⟩ := h
          exact ⟨y, r, ys, rfl, e2, rfl⟩
theorem goes_keep {own : List Nat} {f : D → M (List D)} (hf : ∀ x ρ a ρ', f x ρ = some (.ok a ρ') → Keep own ρ ρ') : ∀ (xs : List D) (ρ : Rho) (a : List D) (ρ' : Rho), goes f xs ρ = some (.ok a ρ') → Keep own ρ ρ'
  | [], ρ, a, ρ', h => by cases h; exact Keep.refl _ _
  | x :: xs, ρ, a, ρ', h => by
    obtain ⟨y, r, ys, e, e2, _⟩ := goes_cons h
    exact (hf x ρ y r e).trans (goes_keep hf xs r ys ρ' e2)
theorem noExc_ok {α : Type} {m : M α} {ρ : Rho} {a : α} {ρ' : Rho} (h : noExc m ρ = some (.ok a ρ')) : m ρ = some (.ok a ρ') := by
  unfold noExc at h
  split at h
  · cases h
  · exact h
def LkO {α : Type} (own : List Nat) (m : M α) : Prop := ∀ ρ a ρ', m ρ = some (.ok a ρ') → Keep own ρ ρ'
theorem Lk.o {α : Type} {own : List Nat} {m : M α} (h : Lk m) : LkO own m := fun ρ a ρ' e => ⟨(h ρ a ρ' e).len, fun i d _ => (h ρ a ρ' e).lck i d (by simp)⟩
theorem turn_keep {own : List Nat} {t : Tg} {m : M (List D)} (hm : LkO own m) (ht : tgIn own t = true) {x : D} {ρ : Rho} {a : List D} {ρ' : Rho} (h : turnM own t m x ρ = some (.ok a ρ')) : Keep own ρ ρ' := by
  unfold turnM at h
  cases e : asgT t x (wipe ρ own) with
  | none => simp [e] at h
  | some r1 =>
    simp only [e] at h
    have k := hm _ _ _ (noExc_ok h)
    refine ⟨by rw [k.len, asgT_len e, wipe_len], fun i d hi e2 => k.lck i d hi ?_⟩
    rw [(asgT_at (own := own) e).1 i ht hi, wipe_at hi]
    exact e2
theorem lock_at {r : Rho} {i j : Nat} : ∀ d, r.at j = some (.lck d) → (lock r i).at j = some (.lck d) := fun d h => by
  unfold lock
  split
  · rename_i d' hd
    by_cases hj : i = j
    · subst hj; rw [hd] at h; cases h
    · rw [at_set_ne hj]; exact h
  · exact h
theorem lock_len {r : Rho} {i : Nat} : (lock r i).sl.length = r.sl.length := by
  unfold lock
  split
  · exact set_len _ _ _
  · rfl
theorem lockO_len {r : Rho} : ∀ {o : Option Nat}, (lockO r o).sl.length = r.sl.length
  | none => rfl
  | some _ => lock_len
theorem lockO_at {r : Rho} {j : Nat} {d : D} (h : r.at j = some (.lck d)) : ∀ {o : Option Nat}, (lockO r o).at j = some (.lck d)
  | none => h
  | some _ => lock_at d h
theorem unlockO_len {r1 r : Rho} : ∀ {o : Option Nat}, (unlockO r1 r o).sl.length = r.sl.length
  | none => rfl
  | some i => by
    unfold unlockO
    dsimp only
    split
    · unfold unlock
      split
      · exact set_len _ _ _
      · rfl
    · rfl
theorem unlockO_at {r1 r : Rho} {j : Nat} {d : D} (h1 : r1.at j = some (.lck d)) (h : r.at j = some (.lck d)) : ∀ {o : Option Nat}, (unlockO r1 r o).at j = some (.lck d)
  | none => h
  | some i => by
    unfold unlockO
    dsimp only
    split
    · rename_i d' hi
      unfold unlock
      split
      · by_cases hij : i = j
        · subst hij; rw [hi] at h1; cases h1
        · rw [at_set_ne hij]; exact h
      · exact h
    · exact h
theorem Lk.comp {own : List Nat} {t : Tg} {mi : M (List D × Option Nat)} {m : M (List D)} (hi : Lk mi) (hm : LkO own m) : Lk (compM own t mi m) := by
  refine hi.bnd fun p => fun ρ a ρ' h => ?_
  split at h
  · rename_i ho
    simp only [Bool.and_eq_true] at ho
    split at h
    · rename_i ys r' hg
      split at h
      · simp only [Option.some.injEq, R1.ok.injEq] at h
        obtain ⟨_, rfl⟩ := h
        have k := goes_keep (own := own) (fun x ρ a ρ' e => turn_keep hm ho.1 e) _ _ _ _ hg
        have hl : r'.sl.length = ρ.sl.length := by rw [k.len, lockO_len]
        refine ⟨by rw [unlockO_len, back_len, hl], fun i d _ e => unlockO_at e ?_⟩
        by_cases hi : i ∈ own
        · rw [back_own hl (at_lt e) hi]; exact e
        · rw [back_at hi]; exact k.lck i d hi (lockO_at e)
      · cases h
    · cases h
  · cases h
theorem Lk.elt1 {m : M Opd} (h : Lk m) : Lk (elt1 m) := h.bnd fun _ => Lk.get _
theorem Lk.eltIf {m c : M Opd} (h : Lk m) (hc : Lk c) : Lk (eltIf m c) := (hc.bnd fun _ => Lk.get _).bnd fun k => by cases k <;> first | exact Lk.ok _ | exact h.elt1
theorem Lk.eltKV {k v : M Opd} (hk : Lk k) (hv : Lk v) : Lk (eltKV k v) := hk.bnd fun _ => hv.bnd fun _ => Lk.get _
theorem LkO.elt2 {own own2 : List Nat} {t : Tg} {mi : M (List D × Option Nat)} {m : M (List D)} (hi : Lk mi) (hm : Lk m) : LkO own (elt2 own own2 t mi m) := by
  intro ρ a ρ' h
  unfold Mp.elt2 M.bnd at h
  cases e : mi ρ with
  | none => simp [e] at h
  | some z =>
    cases z with
    | exc c r => simp [e] at h
    | ok q r =>
      simp only [e] at h
      split at h
      · simp [M.get] at h
      · rename_i hc
        simp only [Bool.or_eq_true, Bool.not_eq_true', not_or, Bool.not_eq_false] at hc
        have k1 := hi ρ q r e
        have k2 := goes_keep (own := own2) (fun x ρ a ρ' e => turn_keep hm.o hc.1.2 e) _ _ _ _ h
        refine ⟨k2.len.trans k1.len, fun i d hn e => k2.lck i d (fun z => hn ?_) (k1.lck i d (by simp) e)⟩
        have := List.all_eq_true.mp hc.2 i z
        simpa using this
mutual
theorem Lk.E (Fs : Nat → Fn) : ∀ A : E, Lk (evE Fs A)
  | .k d => by rw [evE]; exact Lk.ok _
  | .glob _ d => by rw [evE]; exact Lk.ok _
  | .nm i => by rw [evE]; exact Lk.get _
  | .fz i => by rw [evE]; exact Lk.fz i
  | .op o es => by rw [evE]; exact (Lk.Es Fs es).bnd fun _ => Lk.get _
  | .tup es => by rw [evE]; exact (Lk.Es Fs es).bnd fun _ => Lk.get _
  | .lst es => by rw [evE]; exact (Lk.Es Fs es).bnd fun _ => Lk.get _
  | .dget d k x => by rw [evE]; exact (Lk.E Fs d).bnd fun _ => (Lk.E Fs k).bnd fun _ => (Lk.E Fs x).bnd fun _ => Lk.get _
  | .chain o o2 a b c => by
    rw [evE]
    refine (Lk.E Fs a).bnd fun _ => (Lk.E Fs b).bnd fun _ => (Lk.get _).bnd fun k => ?_
    cases k
    · exact Lk.ok _
    · exact (Lk.E Fs c).bnd fun _ => Lk.get _
  | .and a b => by
    rw [evE]
    refine (Lk.E Fs a).bnd fun _ => (Lk.get _).bnd fun k => ?_
    cases k
    · exact Lk.get _
    · exact Lk.E Fs b
  | .or a b => by
    rw [evE]
    refine (Lk.E Fs a).bnd fun _ => (Lk.get _).bnd fun k => ?_
    cases k
    · exact Lk.E Fs b
    · exact Lk.get _
  | .not a => by rw [evE]; exact (Lk.E Fs a).bnd fun _ => (Lk.get _).bnd fun _ => Lk.ok _
  | .ife c a b => by
    rw [evE]
    refine (Lk.E Fs c).bnd fun _ => (Lk.get _).bnd fun k => ?_
    cases k
    · exact Lk.E Fs b
    · exact Lk.E Fs a
  | .asI a => by rw [evE]; exact (Lk.E Fs a).bnd fun _ => Lk.get _
  | .meth o a b => by rw [evE]; exact (Lk.E Fs a).bnd fun _ => (Lk.get _).bnd fun _ => (Lk.E Fs b).bnd fun _ => Lk.get _
  | .call f es => by rw [evE]; exact (Lk.Es Fs es).bnd fun _ => (Lk.call _ _).bnd fun _ => Lk.get _
  | .lc own elt t it => by rw [evE]; exact (Lk.comp (Lk.I Fs it) (Lk.E Fs elt).elt1.o).bnd fun _ => Lk.ok _
  | .lcIf own elt t it c => by rw [evE]; exact (Lk.comp (Lk.I Fs it) ((Lk.E Fs elt).eltIf (Lk.E Fs c)).o).bnd fun _ => Lk.ok _
  | .lc2 own elt t it t2 it2 own2 => by
    rw [evE]
    exact (Lk.comp (Lk.I Fs it) (LkO.elt2 (Lk.I Fs it2) (Lk.E Fs elt).elt1)).bnd fun _ => Lk.ok _
  | .dc own k v t it => by rw [evE]; exact ((Lk.comp (Lk.I Fs it) ((Lk.E Fs k).eltKV (Lk.E Fs v)).o).bnd fun _ => Lk.get _).bnd fun _ => Lk.ok _
theorem Lk.Es (Fs : Nat → Fn) : ∀ A : Es, Lk (evEs Fs A)
  | .nil => by rw [evEs]; exact Lk.ok _
  | .cons e es => by rw [evEs]; exact (Lk.E Fs e).bnd fun _ => (Lk.Es Fs es).bnd fun _ => Lk.ok _
theorem Lk.I (Fs : Nat → Fn) : ∀ A : I, Lk (evI Fs A)
  | .seq e => by rw [evI]; exact (Lk.E Fs e).bnd fun _ => Lk.get _
  | .rng e => by rw [evI]; exact (Lk.E Fs e).bnd fun _ => Lk.get _
  | .rng2 a b => by rw [evI]; exact (Lk.E Fs a).bnd fun _ => (Lk.E Fs b).bnd fun _ => Lk.get _
  | .zip2 a b => by rw [evI]; exact (Lk.E Fs a).bnd fun _ => (Lk.E Fs b).bnd fun _ => Lk.get _
  | .zip3 a b c => by rw [evI]; exact (Lk.E Fs a).bnd fun _ => (Lk.E Fs b).bnd fun _ => (Lk.E Fs c).bnd fun _ => Lk.get _
  | .enum e => by rw [evI]; exact (Lk.E Fs e).bnd fun _ => Lk.get _
  | .items e => by rw [evI]; exact (Lk.E Fs e).bnd fun _ => Lk.get _
  | .keys e => by rw [evI]; exact (Lk.E Fs e).bnd fun _ => Lk.get _
end
end Mp
set_option Elab.async false
set_option linter.all false
set_option maxRecDepth 100000
set_option maxHeartbeats 4000000
set_option autoImplicit false
/-! Mp9: slots set aside; targets; values that come as one's own -/
namespace Mp
open PySem PySem.Spec PyProof.Rows L2
theorem Rho.ext_at {a b : Rho} (hg : a.g = b.g) (hl : a.sl.length = b.sl.length) (h : ∀ i, a.at i = b.at i) : a = b := by
  obtain ⟨sa, ga⟩ := a
  obtain ⟨sb, gb⟩ := b
  simp only at hg hl
  subst hg
  congr 1
  refine List.ext_getElem hl fun i h1 h2 => ?_
  have := h i
  unfold Rho.at at this
  simpa [h1, h2] using this
theorem at_out {r : Rho} {i : Nat} (h : r.sl.length ≤ i) : r.at i = none := by
  unfold Rho.at
  rw [List.getElem?_eq_none h]; rfl
theorem wipe_in {r : Rho} : ∀ {own : List Nat} {i : Nat}, i ∈ own → (wipe r own).at i = none
  | [], _, h => by simp at h
  | o :: own, i, h => by
    unfold wipe
    rw [at_set]
    by_cases ho : o = i
    · subst ho
      by_cases hl : o < (wipe r own).sl.length
      · rw [if_pos ⟨rfl, hl⟩]
      · rw [if_neg (fun z => hl z.2)]; exact at_out (Nat.le_of_not_lt hl)
    · rw [if_neg (fun z => ho z.1)]
      rcases List.mem_cons.mp h with h | h
      · exact absurd h.symm ho
      · exact wipe_in h
theorem wipe_g {r : Rho} : ∀ {own : List Nat}, (wipe r own).g = r.g
  | [] => rfl
  | _ :: own => by unfold wipe Rho.set; exact wipe_g
theorem back_g {r0 r : Rho} : ∀ {own : List Nat}, (back r0 r own).g = r.g
  | [] => rfl
  | _ :: own => by unfold back Rho.set; exact back_g
theorem set_g (r : Rho) (i : Nat) (v : Option SV) : (r.set i v).g = r.g := rfl
section
variable {fc : Fc} {ρ : Rho} {W W' : Wd} {σ : L2.St} {H H' : Hp}
/-- another view of a slot -/
theorem R.recast (r : R fc ρ W σ H) {i : Nat} {sv sv' : SV} (e : ρ.at i = some sv) (h : ∀ v A, SVR fc.w W.F H W.al v sv A → SVR fc.w W.F H W.al v sv' A) : R fc (ρ.set i (some sv')) W σ H := by
  obtain ⟨v, A1, A2, A3, h1, h2, s, h4, _⟩ := Sl.at r.sl (Rho.at_some e)
  have := h4 sv' v A2 (h v A2 s)
  rw [set_self h1, ← h2] at this
  exact ⟨this, r.g, r.nd, r.nf, r.ft, r.a0, r.b0, r.un, r.f0, r.fm, r.al, r.gn⟩
theorem R.lock (r : R fc ρ W σ H) (i : Nat) : R fc (lock ρ i) W σ H := by
  unfold Mp.lock
  split
  · next d hd => exact r.recast hd fun v A s => s
  · exact r
theorem R.lockO (r : R fc ρ W σ H) : ∀ o : Option Nat, R fc (lockO ρ o) W σ H
  | none => r
  | some i => r.lock i
theorem R.unlock (r : R fc ρ W σ H) (i : Nat) : R fc (unlock ρ i) W σ H := by
  unfold Mp.unlock
  split
  · next d hd => exact r.recast hd fun v A s => s
  · exact r
theorem R.unlockO (r : R fc ρ W σ H) (r1 : Rho) : ∀ o : Option Nat, R fc (unlockO r1 ρ o) W σ H
  | none => r
  | some i => by
    unfold Mp.unlockO
    dsimp only
    split
    · exact r.unlock i
    · exact r
theorem set_back {α : Type} (l : List (Option α)) (i : Nat) : (l.set i none).set i (l[i]?.join) = l := by
  refine List.ext_getElem (by simp) fun j h1 h2 => ?_
  by_cases h : i = j
  · subst h; simp [h2]
  · simp [h]
theorem wipe_wipe_set {r : Rho} {own : List Nat} {i : Nat} {v : Option SV} (h : i ∈ own → v = none) : wipe (r.set i v) own = (wipe r own).set i v := by
  refine Rho.ext_at (by rw [wipe_g, set_g, set_g, wipe_g]) (by rw [wipe_len, set_len, set_len, wipe_len]) fun j => ?_
  rw [at_set]
  by_cases hj : j ∈ own
  · rw [wipe_in hj, wipe_in hj]
    split
    · next z => obtain ⟨rfl, _⟩ := z; rw [h hj]
    · rfl
  · rw [wipe_at hj, wipe_at hj, at_set, wipe_len]
theorem back_set {r0 r : Rho} {own : List Nat} {i : Nat} {v : Option SV} (hl : r.sl.length = r0.sl.length) (h : i ∉ own → v = r0.at i) : back r0 (r.set i v) own = (back r0 r own).set i (r0.at i) := by
  refine Rho.ext_at (by rw [back_g, set_g, set_g, back_g]) (by rw [back_len, set_len, set_len, back_len]) fun j => ?_
  rw [at_set, back_len]
  by_cases hlj : j < r0.sl.length
  · by_cases hj : j ∈ own
    · rw [back_own (by rw [set_len, hl]) hlj hj, back_own hl hlj hj]
      split
      · next z => rw [z.1]
      · rfl
    · rw [back_at hj, back_at hj, at_set]
      split
      · next z => obtain ⟨rfl, _⟩ := z; rw [h hj]
      · rfl
  · rw [at_out (by rw [back_len, set_len, hl]; exact Nat.le_of_not_lt hlj)]
    rw [if_neg (fun z => hlj (by obtain ⟨rfl, z⟩ := z; rwa [hl] at z))]
    rw [at_out (by rw [back_len, hl]; exact Nat.le_of_not_lt hlj)]
/-- the own names' slots set aside, and back again -/
theorem R.aside (r : R fc ρ W σ H) : ∀ own : List Nat, ∃ A0, R fc (wipe ρ own) { W with A := A0 } (L2.wipe σ own) H ∧ (∀ a ∈ A0, a ∈ W.A) ∧
    ∀ ρn Wn Hn, Stp { W with A := A0 } H Wn Hn → R fc (wipe ρn own) Wn (L2.wipe σ own) Hn → ρn.sl.length = ρ.sl.length → ∃ A2, R fc (back ρ ρn own) { Wn with A := A2 } σ Hn ∧ ∀ a ∈ A2, a ∈ Wn.A ∨ a ∈ W.A
  | [] => ⟨W.A, r, fun _ h => h, fun ρn Wn Hn _ rn _ => ⟨Wn.A, rn, fun _ h => .inl h⟩⟩
  | i :: is => by
    obtain ⟨A1, r1, s1, b1⟩ := r.aside is
    obtain ⟨A', A2, r0, sub, ap, nd, sv, cov, emp⟩ := r1.drop i none
    refine ⟨A', r0, fun a h => s1 a (sub a h), fun ρn Wn Hn st rn hl => ?_⟩
    have rn : R fc ((wipe ρn is).set i none) Wn ((L2.wipe σ is).set i none) Hn := rn
    have hwl : (wipe ρn is).sl.length = ρ.sl.length := by rw [wipe_len, hl]
    -- the slot filled again
    have key : ∃ A3, R fc (wipe (ρn.set i ((wipe ρ is).at i)) is) { Wn with A := A3 } (L2.wipe σ is) Hn ∧ ∀ a ∈ A3, a ∈ Wn.A ∨ a ∈ A1 := by
      cases e : (wipe ρ is).at i with
      | some x =>
        have hi : i ∉ is := fun z => by rw [wipe_in z] at e; cases e
        have e' := Rho.at_some e
        have hlt : i < ρ.sl.length := by have := at_lt e; rwa [wipe_len] at this
        obtain ⟨v, _, _, _, h1, _⟩ := Sl.at r1.sl e'
        have s := sv x v e' h1
        obtain ⟨more, eal⟩ := st.al
        have s' : SVR fc.w Wn.F Hn Wn.al v x A2 := by
          have := s.kp (more := more) (st.kp r0) (fun a ha o h => st.un a o h (ap a ha).2.2)
          rwa [← eal] at this
        have nn : ∀ a ∈ A2, H a ≠ none := fun a ha => by
          obtain ⟨o, h, _⟩ := s.there a ha; rw [h]; simp
        obtain ⟨A3, r3, mem⟩ := rn.fill (i := i) (sv := x) (v := v) (A2 := A2) (set_none_at (x := none) (by rw [hwl]; exact hlt)) s' nd fun a ha => ⟨fun z => by
            rcases st.a' a z with z | z
            · exact (ap a ha).2.1 z
            · exact nn a ha z, fun z => by
            rcases st.b' a z with z | z
            · exact (ap a ha).2.2 z
            · exact nn a ha z, fun z => by
            rcases st.fr a z with z | z | z
            · exact r1.nf a (List.mem_append_left _ (ap a ha).1) z
            · exact (ap a ha).2.1 z
            · exact nn a ha z, r1.a0 a (ap a ha).1⟩
        refine ⟨A3, ?_, fun a ha => ?_⟩
        · rw [Rho.set_set, List.set_set, set_self h1] at r3
          rw [wipe_wipe_set (fun z => absurd z hi)]
          exact r3
        · rcases (mem a).mp ha with h | h
          · exact .inl h
          · exact .inr (ap a h).1
      | none =>
        obtain ⟨A4, A5, r4, sub4, _, _, _, cov4, emp4⟩ := rn.drop i ((L2.wipe σ is)[i]?.join)
        rw [Rho.set_set, set_back] at r4
        refine ⟨A4, ?_, fun a ha => .inl (sub4 a ha)⟩
        rw [wipe_wipe_set (fun _ => rfl)]
        exact r4
    obtain ⟨A3, r3, sub3⟩ := key
    have st1 : Stp { W with A := A1 } H { Wn with A := A3 } Hn := ⟨st.fm, st.un, fun a h => by
        rcases st.fr a h with h | h | h
        · exact .inl h
        · exact .inr (.inl (sub a h))
        · exact .inr (.inr h), fun a h => by
        rcases sub3 a h with h | h
        · rcases st.a' a h with h | h
          · exact .inl (sub a h)
          · exact .inr h
        · exact .inl h, st.b', st.al, st.gone⟩
    obtain ⟨A6, r6, sub6⟩ := b1 _ _ _ st1 r3 (by rw [set_len, hl])
    rw [back_set hl (fun hi => by rw [wipe_at hi])] at r6
    refine ⟨A6, r6, fun a ha => ?_⟩
    rcases sub6 a ha with h | h
    · rcases sub3 a h with h | h
      · exact .inl h
      · exact .inr (s1 a h)
    · exact .inr h
theorem wipe_off {σ σ' : L2.St} {own : List Nat} (hl : σ'.length = σ.length) (h : ∀ j, j ∉ own → σ'[j]? = σ[j]?) : L2.wipe σ' own = L2.wipe σ own := by
  refine List.ext_getElem? fun j => ?_
  by_cases hj : j ∈ own
  · have e1 : ∀ τ : L2.St, (L2.wipe τ own)[j]? = if j < τ.length then some none else none := fun τ => by
      by_cases hlt : j < τ.length
      · rw [if_pos hlt]
        cases e : (L2.wipe τ own)[j]? with
        | none => rw [List.getElem?_eq_none_iff, L2.wipe_length] at e; omega
        | some x =>
          cases x with
          | none => rfl
          | some y => exact absurd hj (L2.wipe_some e).2
      · rw [if_neg hlt, List.getElem?_eq_none (by rw [L2.wipe_length]; omega)]
    rw [e1, e1, hl]
  · rw [L2.wipe_out hj, L2.wipe_out hj, h j hj]
/-! ### targets -/
/-- what a target leaves of the slots -/
structure Off (t : Tg) (ρ : Rho) (σ σ' : L2.St) : Prop where
  len : σ'.length = σ.length
  off : ∀ own, tgIn own t = true → ∀ j, j ∉ own → σ'[j]? = σ[j]?
  lck : ∀ j d, ρ.at j = some (.lck d) → σ'[j]? = σ[j]?
structure Offs (t : List Tg) (ρ : Rho) (σ σ' : L2.St) : Prop where
  len : σ'.length = σ.length
  off : ∀ own, tgsIn own t = true → ∀ j, j ∉ own → σ'[j]? = σ[j]?
  lck : ∀ j d, ρ.at j = some (.lck d) → σ'[j]? = σ[j]?
def tG (fc : Fc) (t : Tg) : TG := fun v σ H Q => ∃ ρ W d ρ', R fc ρ W σ H ∧ Den fc.w W.F H v d ∧ asgT t d ρ = some ρ' ∧ ∀ σ' W', R fc ρ' W' σ' H → Stp W H W' H → Off t ρ σ σ' → Q σ' H
def tGs (fc : Fc) (t : List Tg) : TGs := fun vs σ H Q => ∃ ρ W ds ρ', R fc ρ W σ H ∧ Dens fc.w W.F H vs ds ∧ asgTs t ds ρ = some ρ' ∧ ∀ σ' W', R fc ρ' W' σ' H → Stp W H W' H → Offs t ρ σ σ' → Q σ' H
/-- a slot is written -/
theorem R.put (r : R fc ρ W σ H) {i : Nat} {sv : SV} {v : V} {A2 : List Addr} (s : SVR fc.w W.F H W.al v sv A2) (nd : A2.Nodup) (h : ∀ a ∈ A2, a ∉ W.A ∧ a ∉ W.B ∧ ¬ W.F a ∧ fc.H0 a = none) :
    ∃ A', R fc (ρ.set i (some sv)) { W with A := A' } (σ.set i (some v)) H ∧ (∀ a ∈ A', a ∈ W.A ∨ a ∈ A2) := by
  by_cases hi : i < ρ.sl.length
  · obtain ⟨A1, _, r1, sub, _, _, _, _, _⟩ := r.drop i none
    obtain ⟨A3, r3, mem⟩ := r1.fill (i := i) (set_none_at (x := none) hi) s nd fun a ha => ⟨fun z => (h a ha).1 (sub a z), (h a ha).2⟩
    rw [Rho.set_set, List.set_set] at r3
    refine ⟨A3, r3, fun a ha => ?_⟩
    rcases (mem a).mp ha with z | z
    · exact .inl (sub a z)
    · exact .inr z
  · have e1 : ρ.set i (some sv) = ρ := by unfold Rho.set; rw [List.set_eq_of_length_le (Nat.le_of_not_lt hi)]
    have e2 : σ.set i (some v) = σ := List.set_eq_of_length_le (by rw [← r.sl.len]; exact Nat.le_of_not_lt hi)
    rw [e1, e2]
    exact ⟨W.A, r, fun _ h => .inl h⟩
theorem wr_eq {i : Nat} {sv : SV} {ρ' : Rho} (h : wr ρ i sv = some ρ') : ρ' = ρ.set i (some sv) ∧ ∀ d, ρ.at i ≠ some (.lck d) := by
  unfold wr at h
  split at h
  · cases h
  · next hn => cases h; exact ⟨rfl, hn⟩
theorem R.wrD (r : R fc ρ W σ H) {i : Nat} {d : D} {v : V} {ρ' : Rho} (h : wr ρ i (.dat d) = some ρ') (dn : Den fc.w W.F H v d) : ∃ W', R fc ρ' W' (σ.set i (some v)) H ∧ Stp W H W' H := by
  obtain ⟨rfl, _⟩ := wr_eq h
  obtain ⟨A', r', sub⟩ := r.put (i := i) (sv := .dat d) (v := v) (A2 := []) ⟨rfl, dn⟩ (by simp) (by simp)
  exact ⟨_, r', ⟨fun _ h => h, fun _ _ h _ => h, fun _ h => .inl h, fun a ha => .inl (by simpa using sub a ha), fun _ h => .inl h, ⟨[], by simp⟩, fun _ h => h⟩⟩
section
variable {X : Cx} {pos : Pos}
theorem sg_name {i : Nat} {x : Str} (hN : X.N.Nodup) (hi : X.N[i]? = some x) (hx : Loc X.env.scope x) (hf : X.fn x = true ∨ X.env.scope.names.lookup x = some .local) : PG X (.Name x pos) (tG fc (.nm i)) := by
  refine ⟨fun pins s σ H v u Q I rv h => (pg_name hN hi hx hf).run pins s σ H v u Q I rv ?_⟩
  obtain ⟨ρ, W, d, ρ', r, dn, e, q⟩ := h
  rw [asgT] at e
  obtain ⟨W', r', st⟩ := r.wrD e dn
  refine q _ W' r' st ⟨by simp, fun own ho j hj => ?_, fun j d' hd => ?_⟩
  · rw [List.getElem?_set_ne]
    rintro rfl
    simp only [tgIn, List.contains_iff_mem] at ho
    exact hj ho
  · rw [List.getElem?_set_ne]
    rintro rfl
    exact (wr_eq e).2 d' hd
theorem sgs_nil : PGs X [] (tGs fc []) := by
  refine ⟨fun pins s σ H vs us Q I rv h => pgs_nil.run pins s σ H vs us Q I rv ?_⟩
  obtain ⟨ρ, W, ds, ρ', r, dn, e, q⟩ := h
  cases ds with
  | nil =>
    cases dn
    rw [asgTs] at e; cases e
    exact ⟨rfl, q σ W r (Stp.refl _ _) ⟨rfl, fun _ _ _ _ => rfl, fun _ _ _ => rfl⟩⟩
  | cons d ds => simp [asgTs] at e
theorem sgs_cons {e : Expr} {es : List Expr} {t : Tg} {ts : List Tg} (h1 : PG X e (tG fc t)) (h2 : PGs X es (tGs fc ts)) (hn : ns e = true) : PGs X (e :: es) (tGs fc (t :: ts)) := by
  refine ⟨fun pins s σ H vs us Q I rv h => (pgs_cons h1 h2 (by rw [ns_assign hn]; rfl)).run pins s σ H vs us Q I rv ?_⟩
  obtain ⟨ρ, W, ds, ρ', r, dn, e, q⟩ := h
  cases ds with
  | nil => simp [asgTs] at e
  | cons d ds =>
    cases dn with
    | cons dv dr =>
      rw [asgTs] at e
      cases e1 : asgT t d ρ with
      | none => simp [e1] at e
      | some ρ1 =>
        simp only [e1] at e
        refine ⟨_, _, rfl, ρ, W, d, ρ1, r, dv, e1, fun σ1 W1 r1 st1 o1 => ⟨ρ1, W1, ds, ρ', r1, Dens.kp (st1.kp r) dr, e, fun σ2 W2 r2 st2 o2 => q σ2 W2 r2 (st1.trans st2) ⟨o2.len.trans o1.len, fun own ho j hj => ?_, fun j d' hd => ?_⟩⟩⟩
        · simp only [tgsIn, Bool.and_eq_true] at ho
          rw [o2.off own ho.2 j hj, o1.off own ho.1 j hj]
        · rw [o2.lck j d' ((asgT_at (own := []) e1).2 j d' hd), o1.lck j d' hd]
theorem ns_each : ∀ {es : List Expr} {env : Env}, es.all ns = true → (assignEach es env).length = es.length ∧ (assignEach es env).findIdx? (·.1) = none
  | [], _, _ => ⟨rfl, rfl⟩
  | e :: es, env, h => by
    simp only [List.all_cons, Bool.and_eq_true] at h
    rw [ns_assign h.1]
    obtain ⟨a, b⟩ := ns_each (env := env) h.2
    exact ⟨by simp [a], by simp [List.findIdx?_cons, b]⟩
theorem Dens.asg {vs ds ts ρ ρ'} {w : World} {F : Addr → Prop} (d : Dens w F H vs ds) (h : asgTs ts ds ρ = some ρ') : vs.length = ts.length := by
  induction ts generalizing vs ds ρ with
  | nil => cases ds <;> cases d <;> first | rfl | simp [asgTs] at h
  | cons t ts ih =>
    cases d with
    | nil => simp [asgTs] at h
    | cons a b =>
      rw [asgTs] at h
      split at h
      · cases h
      · simp [ih b h]
theorem sg_tup {es : List Expr} {k : Nat} {ts : List Tg} (hc : X.calm = true) (h : PGs X es (tGs fc ts)) (hns : es.all ns = true) (hl : ts.length = es.length) : PG X (.Tuple es k pos) (tG fc (.tup ts)) := by
  refine ⟨fun pins s σ H v u Q I rv hh => (pg_tup hc h (ns_each hns).1 (ns_each hns).2).run pins s σ H v u Q I rv ?_⟩
  obtain ⟨ρ, W, d, ρ', r, dn, e, q⟩ := hh
  cases d with
  | tuple ds =>
    rw [asgT] at e
    cases dn with
    | tup ea dd =>
      exact ⟨_, _, rfl, .of ea, by rw [dd.asg e, hl], ρ, W, ds, ρ', r, dd, e, fun σ' W' r' st o => q σ' W' r' st ⟨o.len, fun own ho => o.off own (by simpa [tgIn] using ho), o.lck⟩⟩
  | _ => simp [asgT] at e
end
end
/-! ### values -/
section
variable {T : Tab} {Fs : Nat → Fn} {cl : Nat → Addr} {fc : Fc} {wE : Wish}
variable {nf : Nat} {N : List Str} {sc : Scope} {X : Cx} {ρ : Rho} {W : Wd} {σ : L2.St} {H : Hp} {Q : VK} {pins : List (Addr × Obj)} {s : Shared}
def ExV (fc : Fc) (wE : Wish) (m : M SV) (ρ : Rho) (W : Wd) (σ : L2.St) (H : Hp) (Q : VK) : Prop := match m ρ with
  | none => False
  | some (.exc c ρ') => ∀ W' H', Stp W H W' H' → R fc ρ' W' σ H' → wE c σ H'
  | some (.ok v ρ') => ∀ u W' H', Stp W H W' H' → R fc ρ' W' σ H' → Back fc W H u v W' H' → Q u H'
def tV (fc : Fc) (wE : Wish) (m : M SV) : TE := fun σ H Q => ∃ ρ W, R fc ρ W σ H ∧ ExV fc wE m ρ W σ H Q
/-- as an operand -/
theorem sx_ofV {e : Expr} {m : M SV} {A : E} (h : PE X e (tV fc wE m)) (he : evE Fs A = m.bnd fun v => .get fun _ => v.opd) : PE X e (tO fc wE (evE Fs A)) := by
  refine ⟨fun pins s σ H Q I hh => h.run pins s σ H Q I ?_⟩
  obtain ⟨ρ, W, r, hh⟩ := hh
  refine ⟨ρ, W, r, ?_⟩
  rw [he] at hh
  unfold ExV
  unfold ExO M.bnd at hh
  cases e1 : m ρ with
  | none => simp only [e1] at hh
  | some z =>
    cases z with
    | exc c ρ' => simp only [e1] at hh; exact hh
    | ok v ρ' =>
      simp only [e1] at hh
      unfold M.get at hh
      intro u W' H' st r' b
      cases eo : v.opd with
      | none => simp only [eo] at hh
      | some o =>
        simp only [eo] at hh
        obtain ⟨W3, r3, st3, o3⟩ := b.opd r r' st eo
        exact hh u W3 H' st3 r3 o3
/-- behind an operand at the end -/
theorem Back.ofD {u : V} {d : D} {W' H'} (dn : Den fc.w W'.F H' u d) : Back fc W H u (.dat d) W' H' := ⟨[], ⟨rfl, dn⟩, by simp, by simp⟩
/-- an operand as a value -/
theorem sx_toV {e : Expr} {A : E} {m : M SV} (h : PE X e (tO fc wE (evE Fs A))) (he : m = (evE Fs A).bnd fun x => .get fun _ => x.sv) : PE X e (tV fc wE m) := by
  refine ⟨fun pins s σ H Q I hh => h.run pins s σ H Q I ?_⟩
  obtain ⟨ρ, W, r, hh⟩ := hh
  refine ⟨ρ, W, r, ?_⟩
  rw [he] at hh
  unfold ExO
  unfold ExV M.bnd at hh
  cases e1 : evE Fs A ρ with
  | none => simp only [e1] at hh
  | some z =>
    cases z with
    | exc c ρ' => simp only [e1] at hh; exact hh
    | ok x ρ' =>
      simp only [e1] at hh
      unfold M.get at hh
      intro v W' H' st r' o
      cases x with
      | d z => exact hh v W' H' st r' (Back.ofD o)
      | g n =>
        obtain ⟨a, e, rfl⟩ := o
        exact hh _ W' H' st r' ⟨[], ⟨rfl, a, e, rfl⟩, by simp, by simp⟩
      | p i => simp only [Opd.sv] at hh
      | ex c => exact o.elim
end
end Mp
set_option Elab.async false
set_option linter.all false
set_option maxRecDepth 100000
set_option maxHeartbeats 4000000
set_option autoImplicit false
/-! Mp10: what is walked; comprehensions -/
namespace Mp
open PySem PySem.Spec PyProof.Rows L2
/-- J walks xs while C holds -/
structure Src (w : World) (J : It) (C : (Addr → Prop) → Hp → Prop) (xs : List D) : Prop where
  go : ∀ i F H, C F H → i < xs.length → J.go i H
  stop : ∀ F H, C F H → J.stop xs.length H
  yld : ∀ i F H x H', C F H → i < xs.length → J.yld i H x H' → Same H H' ∧ ∃ d, xs[i]? = some d ∧ Den w F H' x d
/-- why C holds on -/
def Stays (fc : Fc) (σ : L2.St) (ρ : Rho) (C : (Addr → Prop) → Hp → Prop) : Option Nat → Prop
  | none => ∀ F F' H H', C F H → Kp F F' H H' → C F' H'
  | some i => ∃ d v, (ρ.at i = some (.own d) ∨ ρ.at i = some (.lck d)) ∧ σ[i]? = some (some v) ∧ ∀ F H a, Own1 fc.w F H v d a → C F H
def tI (fc : Fc) (wE : Wish) (mi : M (List D × Option Nat)) : TI := fun σ H R0 => ∃ ρ W, R fc ρ W σ H ∧ match mi ρ with
  | none => False
  | some (.exc c ρ') => ∀ W' H', Stp W H W' H' → R fc ρ' W' σ H' → wE c σ H'
  | some (.ok p ρ') => ∀ W' H' J C, Stp W H W' H' → R fc ρ' W' σ H' → Src fc.w J C p.1 → C W'.F H' → Stays fc σ ρ' C p.2 → R0 J H'
section
variable {T : Tab} {Fs : Nat → Fn} {cl : Nat → Addr} {fc : Fc} {wE : Wish}
variable {nf : Nat} {N : List Str} {sc : Scope} {X : Cx} {ρ : Rho} {W : Wd} {σ : L2.St} {H : Hp} {Q : VK} {pins : List (Addr × Obj)} {s : Shared}
theorem tI_bnd {m : M Opd} {f : Opd → M (List D × Option Nat)} {R0 : It → Hp → Prop} (h : tI fc wE (m.bnd f) σ H R0) :
    tO fc wE m σ H fun v H1 => ∃ o ρ1 W1, R fc ρ1 W1 σ H1 ∧ OR fc W1 H1 σ v o ∧ ∃ W0 H0, Stp W0 H0 W1 H1 ∧ (∃ ρ0, R fc ρ0 W0 σ H0) ∧ match f o ρ1 with
      | none => False
      | some (.exc c ρ') => ∀ W' H', Stp W1 H1 W' H' → R fc ρ' W' σ H' → wE c σ H'
      | some (.ok p ρ') => ∀ W' H' J C, Stp W1 H1 W' H' → R fc ρ' W' σ H' → Src fc.w J C p.1 → C W'.F H' → Stays fc σ ρ' C p.2 → R0 J H' := by
  obtain ⟨ρ, W, r, h⟩ := h
  unfold M.bnd at h
  refine tO_of r (fun e => by simp only [e] at h) (fun c ρ' e => by simp only [e] at h; exact h) fun o ρ' e v W' H' st r' o' => ?_
  simp only [e] at h
  refine ⟨o, ρ', W', r', o', W, H, st, ⟨ρ, r⟩, ?_⟩
  cases e2 : f o ρ' with
  | none => simp only [e2] at h
  | some z =>
    cases z with
    | exc c ρ2 => simp only [e2] at h; exact fun W2 H2 s2 r2 => h W2 H2 (st.trans s2) r2
    | ok p ρ2 => simp only [e2] at h; exact fun W2 H2 J C s2 r2 => h W2 H2 J C (st.trans s2) r2
theorem tI_get {f : Rho → Option (List D × Option Nat)} {R0 : It → Hp → Prop} {W1 : Wd} {H1 : Hp} {ρ1 : Rho} (r : R fc ρ1 W1 σ H1) (h : match (M.get f) ρ1 with
      | none => False
      | some (.exc c ρ') => ∀ W' H', Stp W1 H1 W' H' → R fc ρ' W' σ H' → wE c σ H'
      | some (.ok p ρ') => ∀ W' H' J C, Stp W1 H1 W' H' → R fc ρ' W' σ H' → Src fc.w J C p.1 → C W'.F H' → Stays fc σ ρ' C p.2 → R0 J H') :
    ∃ p, f ρ1 = some p ∧ ∀ J C, Src fc.w J C p.1 → C W1.F H1 → Stays fc σ ρ1 C p.2 → R0 J H1 := by
  unfold M.get at h
  cases e : f ρ1 with
  | none => simp only [e] at h
  | some p => simp only [e] at h; exact ⟨p, rfl, fun J C => h W1 H1 J C (Stp.refl _ _) r⟩
/-- a thing that is walked stays -/
def Cw (w : World) (v : V) (d : D) : Option Nat → (Addr → Prop) → Hp → Prop
  | none => fun F H => Den w F H v d
  | some _ => fun F H => ∃ a, Own1 w F H v d a
theorem Cw.cur {w : World} {v : V} {d : D} {lo : Option Nat} {F : Addr → Prop} {H : Hp} (h : Cw w v d lo F H) : Cur w F H v d false := by
  cases lo with
  | none => exact .inl h
  | some i => exact .inr (.inl h)
theorem OR.walk {v : V} {o : Opd} {d : D} (r : R fc ρ W σ H) (q : OR fc W H σ v o) (hw : walkable o = true) (e : o.res ρ = some (d, false)) : Cw fc.w v d (lockOf o) W.F H ∧ Stays fc σ ρ (Cw fc.w v d (lockOf o)) (lockOf o) := by
  cases o with
  | d x =>
    simp only [Opd.res, Option.some.injEq, Prod.mk.injEq] at e
    obtain ⟨rfl, _⟩ := e
    exact ⟨q, fun F F' H1 H2 c k => Den.kp k c⟩
  | p i =>
    have q' : σ[i]? = some (some v) := q
    simp only [Opd.res] at e
    split at e
    · next z hz =>
      simp only [Option.some.injEq, Prod.mk.injEq] at e; obtain ⟨rfl, _⟩ := e
      obtain ⟨v', _, A2, _, h1, _, s, _⟩ := Sl.at r.sl (Rho.at_some hz)
      rw [q'] at h1; cases h1
      obtain ⟨a, _, o⟩ := s
      exact ⟨⟨a, o⟩, z, v, .inl hz, q, fun F H a o => ⟨a, o⟩⟩
    · next z hz =>
      simp only [Option.some.injEq, Prod.mk.injEq] at e; obtain ⟨rfl, _⟩ := e
      obtain ⟨v', _, A2, _, h1, _, s, _⟩ := Sl.at r.sl (Rho.at_some hz)
      rw [q'] at h1; cases h1
      obtain ⟨a, _, o⟩ := s
      exact ⟨⟨a, o⟩, z, v, .inr hz, q, fun F H a o => ⟨a, o⟩⟩
    · simp at e
    · simp at e
  | g n => simp [walkable] at hw
  | ex c => simp [walkable] at hw
theorem src_list {K : PySem.W.Frag} {a : Addr} {xs : List D} {lo : Option Nat} : Src fc.w (Itl K a) (Cw fc.w (.ref a) (.list xs) lo) xs := by
  refine ⟨fun i F H c hi => ?_, fun F H c => ?_, fun i F H x H' c hi y => ?_⟩
  all_goals obtain ⟨a', vs, ev, e, l, dn⟩ := c.cur.list
  all_goals cases ev
  · exact ⟨vs, vs[i]'(by omega), .of e, by simp [show i < vs.length by omega]⟩
  · exact ⟨vs, .of e, by omega⟩
  · obtain ⟨rfl, y⟩ := y
    have := y vs (.of e)
    obtain ⟨d, h1, h2⟩ := (dn rfl).getV this
    exact ⟨fun _ _ h => h, d, h1, h2⟩
theorem src_tup {K : PySem.W.Frag} {a : Addr} {xs : List D} {lo : Option Nat} : Src fc.w (Itt K a) (Cw fc.w (.ref a) (.tuple xs) lo) xs := by
  refine ⟨fun i F H c hi => ?_, fun F H c => ?_, fun i F H x H' c hi y => ?_⟩
  all_goals obtain ⟨a', vs, ev, e, dn⟩ := c.cur.tup
  all_goals cases ev
  all_goals have l := dn.len
  · exact ⟨vs, vs[i]'(by omega), .of e, by simp [show i < vs.length by omega]⟩
  · exact ⟨vs, .of e, by omega⟩
  · obtain ⟨rfl, y⟩ := y
    have := y vs (.of e)
    obtain ⟨d, h1, h2⟩ := dn.getV this
    exact ⟨fun _ _ h => h, d, h1, h2⟩
theorem rngD_len (lo hi : Int) : (rngD lo hi).length = (hi - lo).toNat := by simp [rngD]
theorem src_rng {lo hi : Int} : Src fc.w (Itr lo (hi - lo).toNat) (fun _ _ => True) (rngD lo hi) := by
  refine ⟨fun i F H c hi => by rw [rngD_len] at hi; exact hi, fun F H c => by rw [rngD_len]; exact Nat.le_refl _, fun i F H x H' c hi y => ?_⟩
  obtain ⟨rfl, rfl⟩ := y
  rw [rngD_len] at hi
  exact ⟨fun _ _ h => h, _, by simp [rngD, hi], .int _⟩
/-- a list or a tuple is walked: which one is seen at the run -/
theorem itemsD_cases {d : D} {xs : List D} (h : itemsD d = some xs) : d = .list xs ∨ d = .tuple xs ∨ ∃ kvs, d = .dict kvs ∧ xs = kvs.map (·.1) := by
  cases d <;> simp [itemsD] at h
  · exact .inl (by rw [h])
  · exact .inr (.inl (by rw [h]))
  · exact .inr (.inr ⟨_, rfl, h.symm⟩)
/-- a dict's keys walked: given later -/
def DictIt (fc : Fc) (X : Cx) : Prop := ∀ (pins : List (Addr × Obj)) (s : Shared) (σ : L2.St) (H : Hp) (F : Addr → Prop) (tg : Expr) (v : V) (u : Value) (kvs : List (D × D)) (R0 : It → Hp → Prop), Inv X pins σ H s → Den fc.w F H v (.dict kvs) → RelV v u →
  (∀ J (C : (Addr → Prop) → Hp → Prop), Src fc.w J C (kvs.map (·.1)) → C F H → (∀ F F' H H', C F H → Kp F F' H H' → C F' H') → R0 J H) → wpAny (model X.prog X.w) X.A (pyIter u) (PIE X pins σ tg R0) X.xe s
theorem it_list {tg : Expr} {a : Addr} {xs : List V} {R0 : It → Hp → Prop} (I1 : Inv X pins σ H s) (hq : SqL X.K H a xs) (q : R0 (Itl X.K a) H) : wpAny (model X.prog X.w) X.A (pyIter (.ref a)) (PIE X pins σ tg R0) X.xe s := by
  obtain ⟨its, rv, p, hz⟩ := I1.list hq
  refine wpAny_pyIter_list p.isList ?_
  refine ⟨s.heap.objs.size, [s.heap.objs.size], _, _, H, rfl, I1.kept (t' := s.toks) fun b o e => Heap.get?_push_of_some _ e, turn_list a _, ⟨_, Heap.get?_push_size _ rfl, rfl, rfl⟩, fun b hb => ?_, q⟩
  have e : b = s.heap.objs.size := by simpa using hb
  subst e
  exact I1.fpOk (Nat.le_refl _) (I1.hok.fresh (Nat.le_refl _))
theorem it_tup {tg : Expr} {a : Addr} {xs : List V} {R0 : It → Hp → Prop} (I1 : Inv X pins σ H s) (hq : SqT X.K H a xs) (q : R0 (Itt X.K a) H) : wpAny (model X.prog X.w) X.A (pyIter (.ref a)) (PIE X pins σ tg R0) X.xe s := by
  obtain ⟨its, rv, p, hz⟩ := I1.tuple hq
  refine wpAny_pyIter_tuple (show s.heap.IsTuple a its.toArray from p) ?_
  refine ⟨s.heap.objs.size, [s.heap.objs.size], _, _, H, rfl, I1.kept (t' := s.toks) fun b o e => Heap.get?_push_of_some _ e, turn_tuple a _, ⟨_, Heap.get?_push_size _ rfl, rfl, rfl⟩, fun b hb => ?_, q⟩
  have e : b = s.heap.objs.size := by simpa using hb
  subst e
  exact I1.fpOk (Nat.le_refl _) (I1.hok.fresh (Nat.le_refl _))
/-- for .. in e -/
theorem si_seq {e tg : Expr} {A : E} (ha : PE X e (tO fc wE (evE Fs A))) (hd : DictIt fc X) : PI X tg e (tI fc wE (evI Fs (.seq A))) := by
  refine ⟨fun pins s σ H R0 I h => ?_⟩
  rw [evI] at h
  refine thn (ha.run pins s σ H _ I (tI_bnd h)) fun u s1 ⟨v, H1, I1, rv, o, ρ1, W1, r1, o1, W0, H0, st, _, hm⟩ => ?_
  obtain ⟨p, e, k⟩ := tI_get r1 hm
  unfold seqFin at e
  split at e
  · next hw =>
    split at e
    · next d hres =>
      obtain ⟨c, sy⟩ := o1.walk r1 hw hres
      split at e
      · cases e
      rename_i hdl
      cases e2 : itemsD d with
      | none => simp [e2] at e
      | some xs =>
        simp [e2] at e
        subst e
        rcases itemsD_cases e2 with rfl | rfl | ⟨kvs, rfl, rfl⟩
        · obtain ⟨a, vs, rfl, ea, _⟩ := c.cur.list
          cases rv
          exact it_list I1 (.of ea) (k _ _ src_list c sy)
        · obtain ⟨a, vs, rfl, ea, _⟩ := c.cur.tup
          cases rv
          exact it_tup I1 (.of ea) (k _ _ src_tup c sy)
        · have hlo : lockOf o = none := by
            cases hl : lockOf o with
            | none => rfl
            | some j => rw [hl] at hdl; simp [isDictD] at hdl
          rw [hlo] at c
          exact hd pins s1 σ H1 W1.F tg v u kvs R0 I1 c rv fun J C hs hc hk => k J C hs hc (by show Stays fc σ ρ1 C (lockOf o); rw [hlo]; exact hk)
    · cases e
  · cases e
theorem mid_ok {j : Int} (h : mid j = true) : -(2 ^ 62) ≤ j ∧ j < 2 ^ 62 := by
  simpa [mid, Bool.and_eq_true, decide_eq_true_eq] using h
/-- for .. in range(e) -/
theorem si_rng {a tg : Expr} {A : E} {p pos : Pos} (hg : Gl X "range") (hm : X.mg "range" = none) (ha : PE X a (tO fc wE (evE Fs A))) (hn : ns a = true) : PI X tg (.Call (.Name "range" p) [a] [] pos) (tI fc wE (evI Fs (.rng A))) := by
  refine ⟨fun pins s σ H R0 I h => (pi_range1 hg hm (pa_cons ha pa_nil (ns_star hn _ _)) (ns_star hn _ _)).run pins s σ H R0 I ?_⟩
  rw [evI] at h
  obtain ⟨ρ, W, r, hh⟩ := tI_bnd h
  refine ⟨ρ, W, r, ?_⟩
  unfold ExO at hh ⊢
  split
  · next e => simp only [e] at hh
  · next c ρ' e => simp only [e] at hh; exact hh
  · next o ρ' e =>
    simp only [e] at hh
    intro v W' H' st r' o'
    obtain ⟨o2, ρ2, W2, r2, o2', W0, H0, st0, _, hm⟩ := hh v W' H' st r' o'
    obtain ⟨q, e2, k⟩ := tI_get r2 hm
    unfold rngFin at e2
    split at e2
    · next j b hres =>
      split at e2
      · next hmid =>
        cases e2
        have c := o2'.cur r2 hres
        have := c.int
        subst this
        obtain ⟨h1, h2⟩ := mid_ok hmid
        refine ⟨j, rfl, h1, h2, ?_⟩
        have z := k (Itr 0 (j - 0).toNat) (fun _ _ => True) src_rng trivial (fun _ _ _ _ _ _ => trivial)
        rw [Int.sub_zero] at z
        exact z
      · cases e2
    · cases e2
end
end Mp
set_option Elab.async false
set_option linter.all false
set_option maxRecDepth 100000
set_option maxHeartbeats 4000000
set_option autoImplicit false
/-! Mp11: comprehensions -/
namespace Mp
open PySem PySem.Spec PyProof.Rows L2
section
variable {T : Tab} {Fs : Nat → Fn} {cl : Nat → Addr} {fc : Fc} {wE : Wish}
variable {nf : Nat} {N : List Str} {sc : Scope} {X : Cx} {ρ : Rho} {W : Wd} {σ : L2.St} {H : Hp} {Q : VK} {pins : List (Addr × Obj)} {s : Shared}
theorem R.write (r : R fc ρ W σ H) {a : Addr} (hA : a ∉ W.A) (hB : a ∉ W.B) (hF : ¬ W.F a) (h0 : fc.H0 a = none) {o o' : HO} (hD : H a = some o) (hn : ∀ xs, o ≠ .tup xs) : R fc ρ W σ (upd H a o') ∧ Kp W.F W.F H (upd H a o') := by
  have ne : ∀ b, b ≠ a → upd H a o' b = H b := fun b h => upd_ne h
  have k : Kp W.F W.F H (upd H a o') := ⟨fun _ h => h, fun b x f e => by
    rw [ne b (fun z => hF (z ▸ f))]; exact e, fun b xs e => by
    rw [ne b (fun z => by subst z; rw [hD] at e; exact hn xs (Option.some.inj e))]; exact e⟩
  have sl := Sl.kp (more := []) k (fun b hb x e => by rw [ne b (fun z => hA (z ▸ hb))]; exact e) r.sl
  rw [List.append_nil] at sl
  refine ⟨⟨sl, r.g.kp k fun b hb x e => by rw [ne b (fun z => hB (z ▸ hb))]; exact e, r.nd, r.nf, fun b f => ?_, r.a0, r.b0, fun b x e hb => ?_, r.f0, r.fm, r.al, fun b h => ?_⟩, k⟩
  · rw [ne b (fun z => hF (z ▸ f))]; exact r.ft b f
  · rw [ne b (fun z => by subst z; rw [h0] at e; cases e)]; exact r.un b x e hb
  · by_cases z : b = a
    · subst z; rw [upd_same]; simp
    · rw [ne b z]; exact r.gn b h
theorem wipe_idem (σ : L2.St) (own : List Nat) : L2.wipe (L2.wipe σ own) own = L2.wipe σ own := wipe_off (L2.wipe_length _ _) fun j hj => L2.wipe_out hj
theorem back_lockO {r0 r : Rho} {lo : Option Nat} : ∀ {own : List Nat}, outOwn own lo = true → back (lockO r0 lo) r own = back r0 r own
  | [], _ => rfl
  | i :: is, h => by
    cases lo with
    | none => rfl
    | some j =>
      have h' : ¬ (j = i ∨ j ∈ is) := by simpa [outOwn] using h
      have hij : j ≠ i := fun z => h' (.inl z)
      unfold back
      rw [back_lockO (own := is) (lo := some j) (by simp [outOwn]; exact fun z => h' (.inr z))]
      congr 1
      show (Mp.lock r0 j).at i = r0.at i
      unfold Mp.lock
      split
      · exact at_set_ne hij
      · rfl
theorem lock_own {r : Rho} {i : Nat} {d : D} (h : r.at i = some (.own d) ∨ r.at i = some (.lck d)) : (lock r i).at i = some (.lck d) := by
  unfold Mp.lock
  rcases h with h | h
  · rw [h]
    dsimp only
    rw [at_set, if_pos ⟨rfl, at_lt h⟩]
  · rw [h]; exact h
/-- one turn of a comprehension: its test, its thing -/
def TurnOk (fc : Fc) (m : M (List D)) (tt : TT) (te : TE) : Prop := ∀ ρ W σ H ys ρ', R fc ρ W σ H → m ρ = some (.ok ys ρ') → ∀ (P1 : V → Hp → Prop) (P0 : Hp → Prop),
  (∀ y d W' H', ys = [d] → Stp W H W' H' → R fc ρ' W' σ H' → Den fc.w W'.F H' y d → P1 y H') → (∀ W' H', ys = [] → Stp W H W' H' → R fc ρ' W' σ H' → P0 H') → tt σ H fun b H3 => if b = true then te σ H3 P1 else P0 H3
theorem same_of_none {H1 : Hp} {a : Addr} {o : HO} (h : H1 a = none) : Same H1 (upd H1 a o) := fun b x e => by
  rw [upd_ne (fun z => by subst z; rw [h] at e; cases e)]; exact e
/-- what a comprehension's turns keep -/
structure LcI (fc : Fc) (own : List Nat) (f : D → M (List D)) (xs : List D) (lo : Option Nat) (C : (Addr → Prop) → Hp → Prop) (σ : L2.St) (D0 : Addr) (W0 : Wd) (H1 : Hp) (ρ0 r' : Rho) (ys : List D) (i : Nat) (H : Hp) (ρi : Rho) (Wi : Wd) (zs yd : List D) (acc : List V) : Prop where
  r : R fc (wipe ρi own) Wi (L2.wipe σ own) H
  st : Stp W0 H1 Wi H
  c : C Wi.F H
  kp : Keep own ρ0 ρi
  go : goes f (xs.drop i) ρi = some (.ok zs r')
  d : H D0 = some (.lst acc)
  ds : Dens fc.w Wi.F H acc yd
  all : ys = yd ++ zs
  nA : D0 ∉ Wi.A
  nB : D0 ∉ Wi.B
  nF : ¬ Wi.F D0
theorem Stp.nA {W' : Wd} {H' : Hp} (st : Stp W H W' H') {a : Addr} {o : HO} (h : H a = some o) (hA : a ∉ W.A) (hB : a ∉ W.B) (hF : ¬ W.F a) : H' a = some o ∧ a ∉ W'.A ∧ a ∉ W'.B ∧ ¬ W'.F a := by
  refine ⟨st.un a o h hB, fun z => ?_, fun z => ?_, fun z => ?_⟩
  · rcases st.a' a z with z | z
    · exact hA z
    · rw [h] at z; cases z
  · rcases st.b' a z with z | z
    · exact hB z
    · rw [h] at z; cases z
  · rcases st.fr a z with z | z | z
    · exact hF z
    · exact hA z
    · rw [h] at z; cases z
theorem stay_next {lo : Option Nat} {C : (Addr → Prop) → Hp → Prop} {ρ1 : Rho} {own : List Nat} (sty : Stays fc σ ρ1 C lo) (ho : outOwn own lo = true) {ρx : Rho} {Wx : Wd} {Hx : Hp} (rx : R fc (wipe ρx own) Wx (L2.wipe σ own) Hx) (kp : Keep own (lockO ρ1 lo) ρx) {F : Addr → Prop} {H : Hp} (c : C F H) (k : Kp F Wx.F H Hx) : C Wx.F Hx := by
  cases lo with
  | none => exact sty _ _ _ _ c k
  | some i =>
    obtain ⟨d, v, hd, hv, hC⟩ := sty
    have hi : i ∉ own := by simpa [outOwn] using ho
    have e := kp.lck i d hi (lock_own hd)
    rw [← wipe_at hi] at e
    obtain ⟨v', _, A2, _, h1, _, s, _⟩ := Sl.at rx.sl (Rho.at_some e)
    rw [L2.wipe_out hi, hv] at h1
    cases h1
    obtain ⟨a, _, o⟩ := s
    exact hC _ _ a o
theorem lc_main {own : List Nat} {t : Tg} {mi : M (List D × Option Nat)} {m : M (List D)} {tt : TT} {te : TE} (hm : TurnOk fc m tt te) (lk : LkO own m)
    (h : ∃ ρ W, R fc ρ W σ H ∧ match compM own t mi m ρ with
      | none => False
      | some (.exc c ρ') => ∀ W' H', Stp W H W' H' → R fc ρ' W' σ H' → wE c σ H'
      | some (.ok ys ρ') => ∀ u W' H', Stp W H W' H' → R fc ρ' W' σ H' → Back fc W H u (.own (.list ys)) W' H' → Q u H') :
    tLc (tI fc wE mi) (tG fc t) tt te own σ H Q := by
  obtain ⟨ρ, W, r, h⟩ := h
  refine ⟨ρ, W, r, ?_⟩
  unfold compM M.bnd at h
  cases e1 : mi ρ with
  | none => simp only [e1] at h
  | some z =>
    cases z with
    | exc c ρ' => simp only [e1] at h; exact h
    | ok p ρ1 =>
      simp only [e1] at h
      by_cases hc : (tgIn own t && outOwn own p.2) = true
      case neg => rw [if_neg hc] at h; exact h.elim
      rw [if_pos hc] at h
      simp only [Bool.and_eq_true] at hc
      cases e2 : goes (turnM own t m) p.1 (lockO ρ1 p.2) with
      | none => simp only [e2] at h
      | some z =>
        cases z with
        | exc c ρ' => simp only [e2] at h
        | ok ys r' =>
          simp only [e2] at h
          by_cases hl : ys.length ≤ lim
          case neg => rw [if_neg hl] at h; exact h.elim
          rw [if_pos hl] at h
          intro W1 H1 J C st1 r1 src c0 sty D0 hD
          have rl := r1.lockO p.2
          obtain ⟨A0, r0, s0, bk⟩ := rl.aside own
          have kl : Keep own (Mp.lockO ρ1 p.2) (Mp.lockO ρ1 p.2) := Keep.refl _ _
          have nD : D0 ∉ W1.A ∧ D0 ∉ W1.B ∧ ¬ W1.F D0 := by
            refine ⟨fun z => ?_, fun z => ?_, fun z => ?_⟩
            · obtain ⟨o, e, _⟩ := r1.thereA _ z
              rw [hD] at e; cases e
            · obtain ⟨o, e, _⟩ := r1.thereB _ z
              rw [hD] at e; cases e
            · obtain ⟨o, e⟩ := r1.ft _ z
              rw [hD] at e; cases e
          have h0D : fc.H0 D0 = none := r1.h0 hD
          let Pv : Nat → Hp → Prop := fun i H => ∃ ρi Wi zs yd acc, LcI fc own (turnM own t m) p.1 p.2 C σ D0 { W1 with A := A0 } H1 (Mp.lockO ρ1 p.2) r' ys i H ρi Wi zs yd acc
          have start : Pv 0 (upd H1 D0 (.lst [])) := by
            obtain ⟨r2, st2⟩ := r0.same (same_of_none (o := .lst []) hD)
            refine ⟨Mp.lockO ρ1 p.2, _, ys, [], [], r2, st2, stay_next sty hc.2 r2 kl c0 (st2.kp r0), kl, by simpa using e2, by rw [upd_same], .nil, rfl, fun z => nD.1 (s0 _ z), nD.2.1, nD.2.2⟩
          refine ⟨fun i n H => n = p.1.length - i ∧ i ≤ p.1.length ∧ Pv i H, ⟨_, rfl, Nat.zero_le _, start⟩, ?_⟩
          rintro i n H2 ⟨rfl, hi, ρi, Wi, zs, yd, acc, L⟩
          by_cases hlt : i < p.1.length
          · refine .inr ⟨src.go i _ _ L.c hlt, Pv (i + 1), fun H' p' => ⟨p.1.length - (i + 1), by omega, rfl, hlt, p'⟩, fun x H3 y => ?_⟩
            obtain ⟨sm, d, hd, dn⟩ := src.yld i _ _ x H3 L.c hlt y
            have go := L.go
            have hdr : p.1.drop i = d :: p.1.drop (i + 1) := by
              obtain ⟨h1, h2⟩ := List.getElem?_eq_some_iff.mp hd
              rw [← h2]; exact List.drop_eq_getElem_cons h1
            rw [hdr] at go
            obtain ⟨y1, r2, zs', g1, g2, rfl⟩ := goes_cons go
            have kt := turn_keep lk hc.1 g1
            unfold turnM at g1
            cases ea : asgT t d (Mp.wipe ρi own) with
            | none => simp [ea] at g1
            | some ρt =>
              simp only [ea] at g1
              have g1 := noExc_ok g1
              obtain ⟨r3, st3⟩ := L.r.same sm
              refine ⟨_, Wi, d, ρt, r3, dn, ea, fun σ2 W2 rt stt off => ?_⟩
              have hw2 : L2.wipe σ2 own = L2.wipe σ own := (wipe_off off.len (off.off own hc.1)).trans (wipe_idem σ own)
              refine ⟨hw2, ?_⟩
              have stA : Stp { W1 with A := A0 } H1 W2 H3 := (L.st.trans st3).trans stt
              have kA : Kp Wi.F W2.F H2 H3 := (st3.kp L.r).trans (stt.kp r3)
              obtain ⟨hD3, nA3, nB3, nF3⟩ := (st3.trans stt).nA L.d L.nA L.nB L.nF
              refine hm ρt W2 σ2 H3 y1 r2 rt g1 _ _ (fun v d1 W4 H4 ey st4 r4 dn4 => ?_) (fun W4 H4 ey st4 r4 => ?_)
              · subst ey
                obtain ⟨hD4, nA4, nB4, nF4⟩ := st4.nA hD3 nA3 nB3 nF3
                obtain ⟨A5, r5, s5, _⟩ := r4.aside own
                rw [hw2] at r5
                have k4 : Kp Wi.F W4.F H2 H4 := kA.trans (st4.kp rt)
                obtain ⟨r6, k6⟩ := r5.write (a := D0) (o' := .lst (acc ++ [v])) (fun z => nA4 (s5 _ z)) nB4 nF4 h0D hD4 (fun _ z => by cases z)
                have len : acc.length = yd.length := L.ds.len
                have hys : ys.length = yd.length + (1 + zs'.length) := by rw [L.all]; simp; omega
                refine ⟨acc, hD4, ?_, r2, _, zs', yd ++ [d1], acc ++ [v], r6, ?_, ?_, L.kp.trans kt, g2, by rw [upd_same], ?_, by rw [L.all]; simp, fun z => nA4 (s5 _ z), nB4, nF4⟩
                · rw [← lim_eq]; omega
                · have sA := stA.trans st4
                  exact ⟨sA.fm, fun a o e hb => by
                    rw [upd_ne (fun z => by subst z; rw [hD] at e; cases e)]; exact sA.un a o e hb, sA.fr, fun a ha => sA.a' a (s5 a ha), sA.b', sA.al, fun a e => by
                    rw [upd_ne (fun z => by subst z; exact e hD)]; exact sA.gone a e⟩
                · exact stay_next sty hc.2 r6 (L.kp.trans kt) L.c (k4.trans k6)
                · exact Dens.app (L.ds.kp (k4.trans k6)) (.cons (dn4.kp k6) .nil)
              · subst ey
                obtain ⟨hD4, nA4, nB4, nF4⟩ := st4.nA hD3 nA3 nB3 nF3
                obtain ⟨A5, r5, s5, _⟩ := r4.aside own
                rw [hw2] at r5
                have k4 : Kp Wi.F W4.F H2 H4 := kA.trans (st4.kp rt)
                have sA := stA.trans st4
                exact ⟨r2, _, zs', yd, acc, r5, ⟨sA.fm, sA.un, sA.fr, fun a ha => sA.a' a (s5 a ha), sA.b', sA.al, sA.gone⟩, stay_next sty hc.2 r5 (L.kp.trans kt) L.c k4, L.kp.trans kt, g2, hD4, L.ds.kp k4, by rw [L.all]; simp, fun z => nA4 (s5 _ z), nB4, nF4⟩
          · have hi : i = p.1.length := by omega
            subst hi
            refine .inl ⟨src.stop _ _ L.c, ?_⟩
            have go := L.go
            rw [List.drop_length] at go
            unfold goes M.ok at go
            simp only [Option.some.injEq, R1.ok.injEq] at go
            obtain ⟨rfl, rfl⟩ := go
            have hys : ys = yd := by rw [L.all]; simp
            subst hys
            obtain ⟨A2, r7, s7⟩ := bk ρi Wi H2 L.st L.r L.kp.len
            rw [back_lockO hc.2] at r7
            have r8 := r7.unlockO ρ1 p.2
            have st8 : Stp W1 H1 { Wi with A := A2 } H2 := ⟨L.st.fm, L.st.un, fun a f => by
              rcases L.st.fr a f with f | f | f
              · exact .inl f
              · exact .inr (.inl (s0 a f))
              · exact .inr (.inr f), fun a ha => by
              rcases s7 a ha with z | z
              · rcases L.st.a' a z with z | z
                · exact .inl (s0 a z)
                · exact .inr z
              · exact .inl z, L.st.b', L.st.al, L.st.gone⟩
            refine h (.ref D0) _ H2 (st1.trans st8) r8 ⟨[D0], ⟨D0, rfl, rfl, .inl ⟨acc, ys, rfl, L.d, L.ds⟩⟩, by simp, fun a ha => ?_⟩
            obtain rfl : a = D0 := by simpa using ha
            refine ⟨?_, fun z => ?_, L.nB, L.nF⟩
            · cases eH : H a with
              | none => rfl
              | some o => exact absurd hD (st1.gone a (by rw [eH]; simp))
            · rcases s7 a z with z | z
              · exact L.nA z
              · exact nD.1 z
end
end Mp
set_option Elab.async false
set_option linter.all false
set_option maxRecDepth 100000
set_option maxHeartbeats 4000000
set_option autoImplicit false
/-! Mp12: comprehensions as expressions; fresh things as values -/
namespace Mp
open PySem PySem.Spec PyProof.Rows L2
/-- no exception is wished -/
def wNo : Wish := fun _ _ _ => False
section
variable {T : Tab} {Fs : Nat → Fn} {cl : Nat → Addr} {fc : Fc} {wE : Wish}
variable {nf : Nat} {N : List Str} {sc : Scope} {so : Str → Bool} {X : Cx} {ρ : Rho} {W : Wd} {σ : L2.St} {H : Hp} {Q : VK} {pins : List (Addr × Obj)} {s : Shared}
/-- a block's cells -/
def blkSo (scope : Scope) : Str → Bool := fun x => scope.names.lookup x == some .cell
theorem Good.blk (g : Good T Fs cl fc wE nf N sc so X) {scope : Scope} (s : Shared) (H : Hp) (C : Addr) (cs : List (Str × Addr)) (fp : List Addr) :
    Good T Fs cl fc wNo nf N (relS scope sc) (blkSo scope) (X.blk s H scope (compEnvC scope cs C X.env) fp) where
  N := g.N
  so := fun x h => h
  nd := g.nd
  sc := by show relS scope X.env.scope = _; rw [g.sc]
  calm := g.calm
  w := g.w
  room := g.room
  gd := g.gd
  tk := fun u s' h => by
    obtain ⟨a, B, sI, pins, σ, H, cls, t, e, air, sky, w⟩ := h
    obtain ⟨_, _, _, z⟩ := w
    exact z
  blt := g.blt
  cst := g.cst
  exs := fun p hp => ⟨(g.exs p hp).q, (g.exs p hp).m, (g.exs p hp).k, (g.exs p hp).r⟩
  fn := fun f x ps hf e => ⟨(g.fn f x ps hf e).ex⟩
  kls := fun p hp => ⟨(g.kls p hp).ex⟩
  exm := g.exm
/-- one thing each turn -/
theorem turn_elt1 {m : M Opd} : TurnOk fc (elt1 m) tYes (tO fc wNo m) := by
  intro ρ W σ H ys ρ' r h P1 P0 k1 k0
  show (if true = true then tO fc wNo m σ H P1 else P0 H)
  rw [if_pos rfl]
  refine ⟨ρ, W, r, ?_⟩
  unfold elt1 M.bnd M.get at h
  unfold ExO
  cases e : m ρ with
  | none => simp [e] at h
  | some z =>
    cases z with
    | exc c r1 => simp [e] at h
    | ok y r1 =>
      simp only [e] at h ⊢
      cases y with
      | d z =>
        simp only [datO, Option.map_some, Option.some.injEq, R1.ok.injEq] at h
        obtain ⟨rfl, rfl⟩ := h
        intro v W' H' st r' o
        exact k1 v z W' H' rfl st r' o
      | _ => simp [datO] at h
/-- a thing if a test says so -/
theorem turn_eltIf {m : M Opd} {A : E} : TurnOk fc (eltIf m (evE Fs A)) (tB fc wNo (evB Fs A)) (tO fc wNo m) := by
  intro ρ W σ H ys ρ' r h P1 P0 k1 k0
  have h : ((evB Fs A).bnd fun k => if k then elt1 m else .ok []) ρ = some (.ok ys ρ') := h
  unfold M.bnd at h
  refine ⟨ρ, W, r, ?_⟩
  unfold ExB
  cases e : evB Fs A ρ with
  | none => simp [e] at h
  | some z =>
    cases z with
    | exc c r1 => simp [e] at h
    | ok b r1 =>
      simp only [e] at h ⊢
      intro W1 H1 st1 r2
      cases b with
      | true =>
        simp only [if_true] at h ⊢
        have := turn_elt1 (fc := fc) (m := m) r1 W1 σ H1 ys ρ' r2 h P1 P0 (fun y d W' H' ey st => k1 y d W' H' ey (st1.trans st)) (fun W' H' ey st => k0 W' H' ey (st1.trans st))
        have this : if true = true then tO fc wNo m σ H1 P1 else P0 H1 := this
        rwa [if_pos rfl] at this
      | false =>
        simp only [Bool.false_eq_true, if_false] at h ⊢
        unfold M.ok at h
        simp only [Option.some.injEq, R1.ok.injEq] at h
        obtain ⟨rfl, rfl⟩ := h
        exact k0 W1 H1 rfl st1 r2
theorem evT_comp {m : M (List D)} (r : R fc ρ W σ H) (h : ExV fc wE (m.bnd fun xs => .ok (.own (.list xs))) ρ W σ H Q) : ∃ ρ W, R fc ρ W σ H ∧ match m ρ with
      | none => False
      | some (.exc c ρ') => ∀ W' H', Stp W H W' H' → R fc ρ' W' σ H' → wE c σ H'
      | some (.ok ys ρ') => ∀ u W' H', Stp W H W' H' → R fc ρ' W' σ H' → Back fc W H u (.own (.list ys)) W' H' → Q u H' := by
  refine ⟨ρ, W, r, ?_⟩
  unfold ExV M.bnd at h
  cases e : m ρ with
  | none => simp only [e] at h
  | some z =>
    cases z with
    | exc c r1 => simp only [e] at h; exact h
    | ok ys r1 => simp only [e] at h; exact h
/-- [e for t in it] -/
theorem sx_lc {elt tg iter : Expr} {scope : Scope} {own : List (Str × Nat)} {pos : Pos} {A : E} {t : Tg} {it : I} (g : Good T Fs cl fc wE nf N sc so X) (hi : PI X tg iter (tI fc wE (evI Fs it))) (ok : BlkOk N sc scope own)
    (hg : ∀ X', Good T Fs cl fc wNo nf N (relS scope sc) (blkSo scope) X' → PG X' tg (tG fc t)) (he : ∀ X', Good T Fs cl fc wNo nf N (relS scope sc) (blkSo scope) X' → PE X' elt (tO fc wNo (evE Fs A))) (hn : nset iter = true) :
    PE X (.ListComp elt [⟨tg, iter, [], 0⟩] scope pos) (tV fc wE (evT Fs (.lc (own.map (·.2)) A t it))) := by
  refine ⟨fun pins s σ H Q I h => (pe_lc g.calm g.nd hi (by rw [g.N, g.sc]; exact ok) (fun s H C cl fp => hg _ (g.blk s H C cl fp)) (fun _ _ _ _ _ => pts_nil) (fun s H C cl fp => he _ (g.blk s H C cl fp)) (fun x => nset_folded hn _ x)).run pins s σ H Q I ?_⟩
  obtain ⟨ρ, W, r, h⟩ := h
  rw [evT] at h
  exact lc_main turn_elt1 ((Lk.E Fs A).elt1.o) (evT_comp r h)
theorem sx_lcIf {elt tg iter c : Expr} {scope : Scope} {own : List (Str × Nat)} {pos : Pos} {A B : E} {t : Tg} {it : I} (g : Good T Fs cl fc wE nf N sc so X) (hi : PI X tg iter (tI fc wE (evI Fs it))) (ok : BlkOk N sc scope own)
    (hg : ∀ X', Good T Fs cl fc wNo nf N (relS scope sc) (blkSo scope) X' → PG X' tg (tG fc t)) (he : ∀ X', Good T Fs cl fc wNo nf N (relS scope sc) (blkSo scope) X' → PE X' elt (tO fc wNo (evE Fs A)))
    (hc : ∀ X', Good T Fs cl fc wNo nf N (relS scope sc) (blkSo scope) X' → PT X' c (tB fc wNo (evB Fs B))) (hn : nset iter = true) :
    PE X (.ListComp elt [⟨tg, iter, [c], 0⟩] scope pos) (tV fc wE (evT Fs (.lcIf (own.map (·.2)) A t it B))) := by
  refine ⟨fun pins s σ H Q I h => (pe_lc g.calm g.nd hi (by rw [g.N, g.sc]; exact ok) (fun s H C cl fp => hg _ (g.blk s H C cl fp)) (fun s H C cl fp => pts_one (hc _ (g.blk s H C cl fp))) (fun s H C cl fp => he _ (g.blk s H C cl fp)) (fun x => nset_folded hn _ x)).run pins s σ H Q I ?_⟩
  obtain ⟨ρ, W, r, h⟩ := h
  rw [evT] at h
  exact lc_main turn_eltIf (((Lk.E Fs A).eltIf (Lk.E Fs B)).o) (evT_comp r h)
theorem evE_lc {own : List Nat} {A : E} {t : Tg} {it : I} : evE Fs (.lc own A t it) = (evT Fs (.lc own A t it)).bnd fun v => .get fun _ => v.opd := by
  rw [evE, evT, M.bnd_assoc]; rfl
theorem evE_lcIf {own : List Nat} {A B : E} {t : Tg} {it : I} : evE Fs (.lcIf own A t it B) = (evT Fs (.lcIf own A t it B)).bnd fun v => .get fun _ => v.opd := by
  rw [evE, evT, M.bnd_assoc]; rfl
/-! fresh things -/
theorem New.back {v : V} {d : D} {o : Op} {H' : Hp} (r : R fc ρ W σ H) (sm : Same H H') (n : NewO o fc.w W.F H H' v d) : ∃ W', R fc ρ W' σ H' ∧ Stp W H W' H' ∧ Back fc W H v (if o.fresh && isCont d then .own d else .dat d) W' H' := by
  by_cases hf : (o.fresh && isCont d) = true
  · rw [if_pos hf]
    simp only [Bool.and_eq_true] at hf
    obtain ⟨p, hp, ow⟩ := n.2 hf.1 hf.2
    obtain ⟨r', st⟩ := r.same sm
    refine ⟨W, r', st, ⟨[p], ⟨p, rfl, ow⟩, by simp, fun a ha => ?_⟩⟩
    obtain rfl : a = p := by simpa using ha
    refine ⟨hp, fun z => ?_, fun z => ?_, fun z => ?_⟩
    · obtain ⟨o, e, _⟩ := r.thereA _ z; rw [hp] at e; cases e
    · obtain ⟨o, e, _⟩ := r.thereB _ z; rw [hp] at e; cases e
    · obtain ⟨o, e⟩ := r.ft _ z; rw [hp] at e; cases e
  · rw [if_neg hf]
    obtain ⟨W', r', st, dn⟩ := r.take sm n.1
    exact ⟨W', r', st, Back.ofD dn⟩
/-- an operation's end as a value -/
theorem op_finV {o : Op} {os : List Opd} {act : List Value → Sem Value} (ha : OpD X act o) (hw : X.w = fc.w) (I : Inv X pins σ H s) (r : R fc ρ W σ H) {vs us} (q : ORs fc W H σ vs os) (rv : Vals vs us)
    (h : ExV fc wE (.get fun r => opFinT o (opFin o os r)) ρ W σ H Q) :
    wpAny (model X.prog X.w) X.A (act us) (EP X pins σ Q) X.xe s := by
  unfold ExV M.get opFin at h
  cases e1 : resAll ρ os with
  | none => simp [e1, opFinT] at h
  | some x =>
    obtain ⟨ds, b⟩ := x
    simp only [e1] at h
    cases e2 : opF o ds with
    | none => simp [e2, opFinT] at h
    | some d =>
      simp only [e2] at h
      by_cases hb : (b && !flat d) = true
      · simp [hb, opFinT] at h
      · rw [if_neg hb] at h
        simp only [opFinT] at h
        refine ha pins s σ H fc.w W.F vs us ds b d Q hw I (q.curs r e1) rv (fun z => by simpa [z] using hb) e2 fun z H' sm n => ?_
        obtain ⟨W', r', s', bk⟩ := New.back r sm n
        exact h z W' H' s' r' bk
end
end Mp
set_option Elab.async false
set_option linter.all false
set_option maxRecDepth 100000
set_option maxHeartbeats 4000000
set_option autoImplicit false
/-! Mp13: statements -/
namespace Mp
open PySem PySem.Spec PyProof.Rows L2
/-! locked slots stay, statement by statement -/
def SR.kp (ρ : Rho) : SR → Prop
  | .nx r | .brk r | .cnt r => Keep [] ρ r
  | _ => True
def LkS (f : Rho → Option SR) : Prop := ∀ ρ z, f ρ = some z → z.kp ρ
theorem SR.kp_trans {a b : Rho} {z : SR} (h : Keep [] a b) (k : z.kp b) : z.kp a := by
  cases z <;> first | exact h.trans k | trivial
theorem LkS.then {α : Type} {m : M α} {f : α → Rho → Option SR} (h : Lk m) (k : ∀ a, LkS (f a)) : LkS (m.then f) := fun ρ z e => by
  unfold M.then at e
  cases e1 : m ρ with
  | none => simp [e1] at e
  | some x =>
    cases x with
    | exc c r => simp [e1] at e; subst e; trivial
    | ok a r => simp only [e1] at e; exact SR.kp_trans (h ρ a r e1) (k a r z e)
theorem Keep.wr {ρ r : Rho} {i : Nat} {v : SV} (h : wr ρ i v = some r) : Keep [] ρ r := ⟨wr_len h, fun j d _ e => (wr_at h).2 d e⟩
theorem Keep.asgT {ρ r : Rho} {t : Tg} {d : D} (h : asgT t d ρ = some r) : Keep [] ρ r := ⟨asgT_len h, fun j d _ e => (asgT_at (own := []) h).2 j d e⟩
theorem Keep.set {ρ : Rho} {i : Nat} {v : Option SV} (h : ∀ d, ρ.at i ≠ some (.lck d)) : Keep [] ρ (ρ.set i v) := ⟨set_len _ _ _, fun j d _ e => by
  by_cases hj : i = j
  · subst hj; exact absurd e (h d)
  · rw [at_set_ne hj]; exact e⟩
theorem Keep.par : ∀ {is : List Nat} {ds : List D} {ρ r : Rho}, asgPar is ds ρ = some r → Keep [] ρ r
  | [], [], ρ, r, h => by cases h; exact Keep.refl _ _
  | i :: is, d :: ds, ρ, r, h => by
    unfold asgPar at h
    cases e : asgPar is ds ρ with
    | none => simp [e] at h
    | some r1 => simp only [e] at h; exact (Keep.par e).trans (Keep.wr h)
  | [], _ :: _, _, _, h => by simp [asgPar] at h
  | _ :: _, [], _, _, h => by simp [asgPar] at h
theorem Lk.T (Fs : Nat → Fn) : ∀ A : Mp.E, Lk (evT Fs A)
  | .op o es => by rw [evT]; exact (Lk.Es Fs es).bnd fun _ => Lk.get _
  | .lst es => by rw [evT]; exact (Lk.Es Fs es).bnd fun _ => Lk.get _
  | .call f es => by rw [evT]; exact (Lk.Es Fs es).bnd fun _ => Lk.call _ _
  | .lc own elt t it => by rw [evT]; exact (Lk.comp (Lk.I Fs it) (Lk.E Fs elt).elt1.o).bnd fun _ => Lk.ok _
  | .lcIf own elt t it c => by rw [evT]; exact (Lk.comp (Lk.I Fs it) ((Lk.E Fs elt).eltIf (Lk.E Fs c)).o).bnd fun _ => Lk.ok _
  | .lc2 own elt t it t2 it2 own2 => by rw [evT]; exact (Lk.comp (Lk.I Fs it) (LkO.elt2 (Lk.I Fs it2) (Lk.E Fs elt).elt1)).bnd fun _ => Lk.ok _
  | .dc own k v t it => by rw [evT]; exact ((Lk.comp (Lk.I Fs it) ((Lk.E Fs k).eltKV (Lk.E Fs v)).o).bnd fun _ => Lk.get _).bnd fun _ => Lk.ok _
  | .k d => show Lk ((evE Fs (.k d)).bnd fun x => .get fun _ => x.sv) from (Lk.E Fs _).bnd fun _ => Lk.get _
  | .glob x d => show Lk ((evE Fs (.glob x d)).bnd fun x => .get fun _ => x.sv) from (Lk.E Fs _).bnd fun _ => Lk.get _
  | .nm _ => (Lk.E Fs _).bnd fun _ => Lk.get _
  | .fz _ => (Lk.E Fs _).bnd fun _ => Lk.get _
  | .tup _ => (Lk.E Fs _).bnd fun _ => Lk.get _
  | .dget _ _ _ => (Lk.E Fs _).bnd fun _ => Lk.get _
  | .chain _ _ _ _ _ => (Lk.E Fs _).bnd fun _ => Lk.get _
  | .and _ _ => (Lk.E Fs _).bnd fun _ => Lk.get _
  | .or _ _ => (Lk.E Fs _).bnd fun _ => Lk.get _
  | .not _ => (Lk.E Fs _).bnd fun _ => Lk.get _
  | .ife _ _ _ => (Lk.E Fs _).bnd fun _ => Lk.get _
  | .asI _ => (Lk.E Fs _).bnd fun _ => Lk.get _
  | .meth _ _ _ => (Lk.E Fs _).bnd fun _ => Lk.get _
theorem Lk.B (Fs : Nat → Fn) (A : Mp.E) : Lk (evB Fs A) := (Lk.E Fs A).bnd fun _ => Lk.get _
theorem LkS.wr {i : Nat} {v : SV} : LkS fun r => (Mp.wr r i v).map .nx := fun ρ z e => by
  cases e1 : Mp.wr ρ i v with
  | none => simp [e1] at e
  | some r => simp [e1] at e; subst e; exact Keep.wr e1
theorem Keep.putOwn {ρ : Rho} {i : Nat} {d d' : D} (h : ρ.getOwn i = some d) : Keep [] ρ (ρ.putOwn i d') := by
  unfold Rho.getOwn at h
  unfold Rho.putOwn
  split at h
  · next e => rw [e]; exact Keep.set (by rw [e]; exact fun _ z => by cases z)
  · next n e => rw [e]; exact ⟨rfl, fun _ _ _ h => h⟩
  · cases h
theorem LkS.mut {m : Mu} {i : Nat} {os : List Opd} : LkS (mutS m i os) := fun ρ z e => by
  unfold mutS at e
  split at e
  · cases e
  · split at e
    · split at e
      · next d hd =>
        simp only [Option.map_eq_some_iff] at e
        obtain ⟨d', _, rfl⟩ := e
        exact Keep.set (by rw [hd]; exact fun _ z => by cases z)
      · next d hd =>
        split at e
        · simp only [Option.map_eq_some_iff] at e
          obtain ⟨d', _, rfl⟩ := e
          exact Keep.set (by rw [hd]; exact fun _ z => by cases z)
        · cases e
      · cases e
    · split at e
      · cases e
      · next d hd =>
        simp only [Option.map_eq_some_iff] at e
        obtain ⟨d', _, rfl⟩ := e
        exact Keep.putOwn hd
theorem forL_keep {body : D → Rho → Option SR} (hb : ∀ x, LkS (body x)) : ∀ (xs : List D), LkS (forL body xs)
  | [], ρ, z, h => by cases h; exact Keep.refl _ _
  | x :: xs, ρ, z, h => by
    unfold forL at h
    cases e : body x ρ with
    | none => simp [e] at h
    | some y =>
      have k := hb x ρ y e
      cases y with
      | nx r => simp only [e] at h; exact SR.kp_trans k (forL_keep hb xs r z h)
      | cnt r => simp only [e] at h; exact SR.kp_trans k (forL_keep hb xs r z h)
      | brk r => simp only [e, Option.some.injEq] at h; subst h; exact k
      | ret v g => simp only [e, Option.some.injEq] at h; subst h; trivial
      | exc c r => simp only [e, Option.some.injEq] at h; subst h; trivial
theorem forL_nobrk {body : D → Rho → Option SR} : ∀ {xs : List D} {ρ r : Rho}, forL body xs ρ = some (.brk r) → False
  | [], ρ, r, h => by cases h
  | x :: xs, ρ, r, h => by
    unfold forL at h
    cases e : body x ρ with
    | none => simp [e] at h
    | some y => cases y with
      | nx r => simp only [e] at h; exact forL_nobrk h
      | cnt r => simp only [e] at h; exact forL_nobrk h
      | _ => simp [e] at h
theorem forL_nocnt {body : D → Rho → Option SR} : ∀ {xs : List D} {ρ r : Rho}, forL body xs ρ = some (.cnt r) → False
  | [], ρ, r, h => by cases h
  | x :: xs, ρ, r, h => by
    unfold forL at h
    cases e : body x ρ with
    | none => simp [e] at h
    | some y => cases y with
      | nx r => simp only [e] at h; exact forL_nocnt h
      | cnt r => simp only [e] at h; exact forL_nocnt h
      | _ => simp [e] at h
theorem whileL_keep {t : M Bool} {body : Rho → Option SR} (ht : Lk t) (hb : LkS body) : ∀ n, LkS (whileL t body n)
  | 0, ρ, z, h => by cases h
  | n + 1, ρ, z, h => by
    unfold whileL at h
    cases e0 : t ρ with
    | none => simp [e0] at h
    | some q =>
      cases q with
      | exc c r => simp only [e0, Option.some.injEq] at h; subst h; trivial
      | ok b r0 =>
        cases b with
        | false => simp only [e0, Option.some.injEq] at h; subst h; exact ht _ _ _ e0
        | true =>
          simp only [e0] at h
          refine SR.kp_trans (ht _ _ _ e0) ?_
          cases e : body r0 with
          | none => simp [e] at h
          | some y =>
            have k := hb r0 y e
            cases y with
            | nx r => simp only [e] at h; exact SR.kp_trans k (whileL_keep ht hb n r z h)
            | cnt r => simp only [e] at h; exact SR.kp_trans k (whileL_keep ht hb n r z h)
            | brk r => simp only [e, Option.some.injEq] at h; subst h; exact k
            | ret v g => simp only [e, Option.some.injEq] at h; subst h; trivial
            | exc c r => simp only [e, Option.some.injEq] at h; subst h; trivial
theorem Keep.unlock {a r1 r : Rho} {lo : Option Nat} (k : Keep [] (lockO a lo) r) : Keep [] a (unlockO a r lo) := by
  refine ⟨by rw [unlockO_len, k.len, lockO_len], fun j d hn e => unlockO_at e (k.lck j d hn (lockO_at e))⟩
mutual
theorem LkS.S (Fs : Nat → Fn) : ∀ A : Mp.S, LkS (evS Fs A)
  | .asg i e => by rw [evS]; exact LkS.then (Lk.T Fs e) fun v => LkS.wr
  | .asgB i e => by
    rw [evS]
    refine LkS.then (Lk.T Fs e) fun v => fun ρ z h => ?_
    cases v with
    | own d =>
      simp only [Option.map_eq_some_iff] at h
      obtain ⟨r, h, rfl⟩ := h
      have := Keep.wr h
      exact ⟨this.len, this.lck⟩
    | _ => cases h
  | .unp t e => by
    rw [evS]
    refine LkS.then (Lk.E Fs e) fun v => fun ρ z h => ?_
    cases v with
    | d d =>
      simp only [Option.map_eq_some_iff] at h
      obtain ⟨r, h, rfl⟩ := h
      exact Keep.asgT h
    | _ => cases h
  | .par is es => by
    rw [evS]
    refine LkS.then (Lk.Es Fs es) fun v => fun ρ z h => ?_
    split at h
    · simp only [Option.map_eq_some_iff] at h
      obtain ⟨r, h, rfl⟩ := h
      exact Keep.par h
    · cases h
  | .ex e => by rw [evS]; exact LkS.then (Lk.E Fs e) fun v => fun ρ z h => by cases h; exact Keep.refl _ _
  | .ret e => by rw [evS]; exact LkS.then (Lk.T Fs e) fun v => fun ρ z h => by cases h; trivial
  | .mv i => fun ρ z h => by
    rw [evS] at h
    dsimp only at h
    split at h
    · cases h; trivial
    · cases h; trivial
    · cases h
  | .retN => fun ρ z h => by rw [evS] at h; cases h; trivial
  | .ite c a b => by
    rw [evS]
    refine LkS.then (Lk.B Fs c) fun v => ?_
    cases v
    · exact LkS.Ss Fs b
    · exact LkS.Ss Fs a
  | .for_ t it b => by
    rw [evS]
    refine LkS.then (Lk.I Fs it) fun p => fun ρ z h => ?_
    have hb : ∀ x, LkS (fun r => match asgT t x r with | none => none | some r' => evSs Fs b r') := fun x ρ z h => by
      dsimp only at h
      cases e : asgT t x ρ with
      | none => simp [e] at h
      | some r1 => simp only [e] at h; exact SR.kp_trans (Keep.asgT e) (LkS.Ss Fs b r1 z h)
    split at h
    · next r' e => cases h; exact Keep.unlock (r1 := ρ) (forL_keep hb p.1 _ _ e)
    · cases h; trivial
    · next z' hn1 hn2 =>
      have k := forL_keep hb p.1 _ _ h
      cases z with
      | nx r => exact absurd h (hn1 r)
      | brk r =>
        exfalso
        exact forL_nobrk h
      | cnt r =>
        exfalso
        exact forL_nocnt h
      | ret v g => trivial
      | exc c r => trivial
  | .while_ c b => by rw [evS]; exact whileL_keep (Lk.B Fs c) (LkS.Ss Fs b) _
  | .brk => fun ρ z h => by rw [evS] at h; cases h; exact Keep.refl _ _
  | .cnt => fun ρ z h => by rw [evS] at h; cases h; exact Keep.refl _ _
  | .pass => fun ρ z h => by rw [evS] at h; cases h; exact Keep.refl _ _
  | .raise c => fun ρ z h => by rw [evS] at h; cases h; trivial
  | .aug i o e => fun ρ z h => by
    rw [evS] at h
    dsimp only at h
    split at h
    · refine LkS.then (Lk.E Fs e) (fun v => fun ρ z h => ?_) ρ z h
      unfold augM at h
      split at h
      · split at h
        · exact LkS.wr ρ z h
        · cases h
      · cases h
    · cases h
  | .mut m i es => fun ρ z h => by
    rw [evS] at h
    dsimp only at h
    split at h
    · exact LkS.then (Lk.Es Fs es) (fun v => LkS.mut) ρ z h
    · cases h
  | .popT t i => fun ρ z h => by
    rw [evS] at h
    dsimp only at h
    split at h
    · next xs hx =>
      split at h
      · simp only [Option.map_eq_some_iff] at h
        obtain ⟨r, h, rfl⟩ := h
        exact (Keep.set (by rw [hx]; exact fun _ z => by cases z)).trans (Keep.asgT h)
      · cases h
    · cases h
  | .tryC b i tg f nx => fun ρ z h => by
    rw [evS] at h
    cases e : evSs Fs b ρ with
    | none => simp only [e] at h; cases h
    | some y =>
      have k := LkS.Ss Fs b ρ y e
      cases y with
      | exc c r' =>
        simp only [e] at h
        obtain ⟨d, _, rfl⟩ := Option.map_eq_some_iff.mp h
        trivial
      | _ => simp only [e] at h; cases h; exact k
  | .tryR b c nx d => fun ρ z h => by
    rw [evS] at h
    cases e : evSs Fs b ρ with
    | none => simp only [e] at h; cases h
    | some y =>
      have k := LkS.Ss Fs b ρ y e
      cases y with
      | exc c' r' =>
        simp only [e] at h
        split at h
        · split at h <;> cases h <;> trivial
        · cases h
      | _ => simp only [e] at h; cases h; exact k
theorem LkS.Ss (Fs : Nat → Fn) : ∀ A : Mp.Ss, LkS (evSs Fs A)
  | .nil => fun ρ z h => by rw [evSs] at h; cases h; exact Keep.refl _ _
  | .never => fun ρ z h => by rw [evSs] at h; cases h
  | .cons s ss => fun ρ z h => by
    rw [evSs] at h
    have k := LkS.S Fs s
    cases e : evS Fs s ρ with
    | none => simp [e] at h
    | some y =>
      cases y with
      | nx r => simp only [e] at h; exact SR.kp_trans (k ρ _ e) (LkS.Ss Fs ss r z h)
      | brk r => simp only [e, Option.some.injEq] at h; subst h; exact k ρ _ e
      | cnt r => simp only [e, Option.some.injEq] at h; subst h; exact k ρ _ e
      | ret v g => simp only [e, Option.some.injEq] at h; subst h; trivial
      | exc c r => simp only [e, Option.some.injEq] at h; subst h; trivial
end
end Mp
set_option Elab.async false
set_option linter.all false
set_option maxRecDepth 100000
set_option maxHeartbeats 4000000
set_option autoImplicit false
/-! Mp14: readings of statements -/
namespace Mp
open PySem PySem.Spec PyProof.Rows L2
/-- a step of a statement -/
structure StpS (ρ : Rho) (W : Wd) (σ : L2.St) (H : Hp) (W' : Wd) (σ' : L2.St) (H' : Hp) : Prop where
  kp : Kp W.F W'.F H H'
  lck : ∀ i d, ρ.at i = some (.lck d) → σ'[i]? = σ[i]?
section
variable {T : Tab} {Fs : Nat → Fn} {cl : Nat → Addr} {fc : Fc} {wE : Wish}
variable {nf : Nat} {N : List Str} {sc : Scope} {so : Str → Bool} {X : Cx} {ρ ρ' : Rho} {W W' : Wd} {σ σ' : L2.St} {H H' : Hp} {Q : VK} {pins : List (Addr × Obj)} {s : Shared} {D : Ends}
theorem StpS.refl : StpS ρ W σ H W σ H := ⟨Kp.refl, fun _ _ _ => rfl⟩
theorem StpS.trans {W2 : Wd} {σ2 : L2.St} {H2 : Hp} (a : StpS ρ W σ H W' σ' H') (k : Keep [] ρ ρ') (b : StpS ρ' W' σ' H' W2 σ2 H2) : StpS ρ W σ H W2 σ2 H2 :=
  ⟨a.kp.trans b.kp, fun i d e => (b.lck i d (k.lck i d (by simp) e)).trans (a.lck i d e)⟩
theorem Stp.toS (st : Stp W H W' H') (r : R fc ρ W σ H) : StpS ρ W σ H W' σ H' := ⟨st.kp r, fun _ _ _ => rfl⟩
/-- what a statement's end asks -/
def ExS (fc : Fc) (wE : Wish) (D : Ends) (ρ : Rho) (W : Wd) (σ : L2.St) (H : Hp) : Option SR → Prop
  | none => False
  | some (.nx r) => ∀ σ' W' H', StpS ρ W σ H W' σ' H' → R fc r W' σ' H' → D.nx σ' H'
  | some (.brk r) => ∀ σ' W' H', StpS ρ W σ H W' σ' H' → R fc r W' σ' H' → D.bk σ' H'
  | some (.cnt r) => ∀ σ' W' H', StpS ρ W σ H W' σ' H' → R fc r W' σ' H' → D.ct σ' H'
  | some (.ret v g) => ∀ u W' H', Ret fc g u v H' W' → D.rt u H'
  | some (.exc c r) => ∀ σ' W' H', StpS ρ W σ H W' σ' H' → R fc r W' σ' H' → wE c σ' H'
def tS (fc : Fc) (wE : Wish) (m : Rho → Option SR) : TS := fun D σ H => ∃ ρ W, R fc ρ W σ H ∧ ExS fc wE D ρ W σ H (m ρ)
/-- from a later state on -/
theorem ExS.from {z : Option SR} (h : ExS fc wE D ρ W σ H z) (st : StpS ρ W σ H W' σ' H') (k : Keep [] ρ ρ') : ExS fc wE D ρ' W' σ' H' z := by
  unfold ExS at h ⊢
  split at h
  · exact h.elim
  · exact fun σ2 W2 H2 s2 r2 => h σ2 W2 H2 (st.trans k s2) r2
  · exact fun σ2 W2 H2 s2 r2 => h σ2 W2 H2 (st.trans k s2) r2
  · exact fun σ2 W2 H2 s2 r2 => h σ2 W2 H2 (st.trans k s2) r2
  · exact h
  · exact fun σ2 W2 H2 s2 r2 => h σ2 W2 H2 (st.trans k s2) r2
theorem ss_nil : PSs X [] (tS fc wE (evSs Fs .nil)) := ⟨fun pins s σ H D I h => pss_nil.run pins s σ H D I (by
  obtain ⟨ρ, W, r, h⟩ := h
  rw [evSs] at h
  exact h σ W H StpS.refl r)⟩
theorem ss_never {sts : List Stmt} : PSs X sts (tS fc wE (evSs Fs .never)) := ⟨fun pins s σ H D I h => by
  obtain ⟨ρ, W, r, h⟩ := h
  rw [evSs] at h
  exact h.elim⟩
theorem ss_cons {st : Stmt} {sts : List Stmt} {A : Mp.S} {As : Ss} (h1 : PS X st (tS fc wE (evS Fs A))) (h2 : PSs X sts (tS fc wE (evSs Fs As))) : PSs X (st :: sts) (tS fc wE (evSs Fs (.cons A As))) := by
  refine ⟨fun pins s σ H D I h => (pss_cons h1 h2).run pins s σ H D I ?_⟩
  obtain ⟨ρ, W, r, h⟩ := h
  rw [evSs] at h
  refine ⟨ρ, W, r, ?_⟩
  cases e : evS Fs A ρ with
  | none => simp only [e] at h; exact h
  | some z =>
    have k := LkS.S Fs A ρ z e
    cases z with
    | nx r1 =>
      simp only [e] at h
      exact fun σ' W' H' st r' => ⟨r1, W', r', h.from st k⟩
    | _ => simp only [e] at h; exact h
theorem ss_simple {st : Stmt} {A : Mp.S} (h : ∀ D σ H, tS fc wE (evS Fs A) D σ H → tNext D σ H) (k : PS X st tNext) : PS X st (tS fc wE (evS Fs A)) := ⟨fun pins s σ H D I hh => k.run pins s σ H D I (h D σ H hh)⟩
theorem ss_pass {pos} : PS X (.Pass pos) (tS fc wE (evS Fs .pass)) := ss_simple (fun D σ H ⟨ρ, W, r, h⟩ => by rw [evS] at h; exact h σ W H StpS.refl r) ps_pass
theorem ss_doc {x j pos pos'} : PS X (.Expr (.Constant (.str x) j pos) pos') (tS fc wE (evS Fs .pass)) := ss_simple (fun D σ H ⟨ρ, W, r, h⟩ => by rw [evS] at h; exact h σ W H StpS.refl r) ps_doc
theorem ss_brk {pos} : PS X (.Break pos) (tS fc wE (evS Fs .brk)) := ⟨fun pins s σ H D I ⟨ρ, W, r, h⟩ => ps_break.run pins s σ H D I (by rw [evS] at h; exact h σ W H StpS.refl r)⟩
theorem ss_cnt {pos} : PS X (.Continue pos) (tS fc wE (evS Fs .cnt)) := ⟨fun pins s σ H D I ⟨ρ, W, r, h⟩ => ps_continue.run pins s σ H D I (by rw [evS] at h; exact h σ W H StpS.refl r)⟩
/-- the machine at a def's end -/
theorem R.ret (r : R fc ρ W σ H) {u : V} {v : SV} {A2 : List Addr} (s : SVR fc.w W.F H W.al u v A2) (nd : A2.Nodup) (h : ∀ a ∈ A2, a ∉ W.B ∧ ¬ W.F a ∧ fc.H0 a = none) : Ret fc ρ.g u v H { W with A := A2 } := by
  refine ⟨s, r.g, ?_, fun a ha => ?_, r.ft, fun a ha => (h a ha).2.2, r.b0, r.un, r.f0, r.fm, r.al, r.gn⟩
  · have n := r.nd
    rw [List.nodup_append] at n
    show (A2 ++ W.B).Nodup
    rw [List.nodup_append]
    exact ⟨nd, n.2.1, fun a ha b hb z => (h a ha).1 (z ▸ hb)⟩
  · rcases List.mem_append.mp ha with ha | ha
    · exact (h a ha).2.1
    · exact r.nf a (List.mem_append_right _ ha)
theorem ss_ret {e : Expr} {A : E} {pos} (he : PE X e (tV fc wE (evT Fs A))) : PS X (.Return (some e) pos) (tS fc wE (evS Fs (.ret A))) := by
  refine ⟨fun pins s σ H D I h => (ps_ret he).run pins s σ H D I ?_⟩
  obtain ⟨ρ, W, r, h⟩ := h
  rw [evS] at h
  refine ⟨ρ, W, r, ?_⟩
  unfold M.then at h
  unfold ExV
  cases e1 : evT Fs A ρ with
  | none => simp only [e1] at h; exact h
  | some z =>
    cases z with
    | exc c r1 => simp only [e1] at h; exact fun W' H' st r' => h σ W' H' (st.toS r) r'
    | ok v r1 =>
      simp only [e1] at h
      intro u W' H' st r' b
      obtain ⟨A2, sv, nd, ha⟩ := b.sv
      exact h u _ H' (r'.ret sv nd fun a z => ⟨(ha a z).2.2.1, (ha a z).2.2.2, r.h0 (ha a z).1⟩)
theorem ss_retN {pos} : PS X (.Return none pos) (tS fc wE (evS Fs .retN)) := by
  refine ⟨fun pins s σ H D I h => ps_retN.run pins s σ H D I ?_⟩
  obtain ⟨ρ, W, r, h⟩ := h
  rw [evS] at h
  exact h .non _ H (r.ret (A2 := []) ⟨rfl, .non⟩ (by simp) (by simp))
/-- return x, x the slot's own -/
theorem ss_mv {i : Nat} {x : Str} {p pos} (hN : X.N[i]? = some x) (hv : Vis X.env.scope x) (hd : (x == ("__debug__" : Str)) = false) (hc : (x == ("__classdict__" : Str)) = false) : PS X (.Return (some (.Name x p)) pos) (tS fc wE (evS Fs (.mv i))) := by
  refine ⟨fun pins s σ H D I h => (ps_ret (pe_var hN hv hd hc)).run pins s σ H D I ?_⟩
  obtain ⟨ρ, W, r, h⟩ := h
  rw [evS] at h
  dsimp only at h
  split at h
  · next d hd =>
    obtain ⟨v, _, _, _, h1, _⟩ := Sl.at r.sl (Rho.at_some hd)
    obtain ⟨A', A2, r', sub, ap, nd, sv, _⟩ := r.drop i (some v)
    have s := sv _ v (Rho.at_some hd) h1
    exact ⟨v, h1, h v _ H (r'.ret s nd fun a ha => ⟨(ap a ha).2.2, r.nf a (List.mem_append_left _ (ap a ha).1), r.a0 a (ap a ha).1⟩)⟩
  · next d hd =>
    obtain ⟨v, _, _, _, h1, _, s, _⟩ := Sl.at r.sl (Rho.at_some hd)
    exact ⟨v, h1, h v _ H (r.ret (A2 := []) ⟨rfl, s.2⟩ (by simp) (by simp))⟩
  · exact h.elim
theorem ss_ex {e : Expr} {A : E} {pos : Pos} (he : PE X e (tO fc wE (evE Fs A))) (hs : swapsWith e none pos.line X.env = pure false) : PS X (.Expr e pos) (tS fc wE (evS Fs (.ex A))) := by
  refine ⟨fun pins s σ H D I h => (ps_expr he hs).run pins s σ H D I ?_⟩
  obtain ⟨ρ, W, r, h⟩ := h
  rw [evS] at h
  refine ⟨ρ, W, r, ?_⟩
  unfold M.then at h
  unfold ExO
  cases e1 : evE Fs A ρ with
  | none => simp only [e1] at h; exact h
  | some z =>
    cases z with
    | exc c r1 => simp only [e1] at h; exact fun W' H' st r' => h σ W' H' (st.toS r) r'
    | ok v r1 =>
      simp only [e1] at h
      exact fun v W' H' st r' o => h σ W' H' (st.toS r) r'
theorem ss_if {c : Expr} {a b : List Stmt} {C : E} {A B : Ss} {pos} (hc : PT X c (tB fc wE (evB Fs C))) (ha : PSs X a (tS fc wE (evSs Fs A))) (hb : PSs X b (tS fc wE (evSs Fs B))) : PS X (.If c a b pos) (tS fc wE (evS Fs (.ite C A B))) := by
  refine ⟨fun pins s σ H D I h => (ps_if hc ha hb).run pins s σ H D I ?_⟩
  obtain ⟨ρ, W, r, h⟩ := h
  rw [evS] at h
  refine ⟨ρ, W, r, ?_⟩
  unfold M.then at h
  unfold ExB
  cases e1 : evB Fs C ρ with
  | none => simp only [e1] at h; exact h
  | some z =>
    cases z with
    | exc c r1 => simp only [e1] at h; exact fun W' H' st r' => h σ W' H' (st.toS r) r'
    | ok k r1 =>
      simp only [e1] at h
      intro W' H' st r'
      have kp := Lk.B Fs C ρ k r1 e1
      have h' := h.from (st.toS r) kp
      cases k with
      | true => exact ⟨r1, W', r', h'⟩
      | false => exact ⟨r1, W', r', h'⟩
/-! name = e -/
theorem asg_core {i : Nat} {A : E} (h : tS fc wE (evS Fs (.asg i A)) D σ H) : tV fc wE (evT Fs A) σ H fun u H' => D.nx (σ.set i (some u)) H' := by
  obtain ⟨ρ, W, r, h⟩ := h
  rw [evS] at h
  refine ⟨ρ, W, r, ?_⟩
  unfold M.then at h
  unfold ExV
  cases e1 : evT Fs A ρ with
  | none => simp only [e1] at h; exact h
  | some z =>
    cases z with
    | exc c r1 => simp only [e1] at h; exact fun W' H' st r' => h σ W' H' (st.toS r) r'
    | ok v r1 =>
      simp only [e1] at h
      intro u W' H' st r' b
      obtain ⟨A2, sv, nd, ha⟩ := b.sv
      cases e2 : wr r1 i v with
      | none => simp only [e2, Option.map_none] at h; exact h.elim
      | some r2 =>
        simp only [e2, Option.map_some] at h
        obtain ⟨rfl, hl⟩ := wr_eq e2
        obtain ⟨A3, r3, _⟩ := r'.put (i := i) sv nd fun a z => ⟨(ha a z).2.1, (ha a z).2.2.1, (ha a z).2.2.2, r.h0 (ha a z).1⟩
        have kp := Lk.T Fs A ρ v r1 e1
        refine h _ { W' with A := A3 } H' ⟨(st.toS r).kp, fun j d e => ?_⟩ r3
        rw [List.getElem?_set_ne]
        rintro rfl
        exact hl d (kp.lck _ d (by simp) e)
theorem ss_asg {i : Nat} {x : Str} {e : Expr} {A : E} {p pos : Pos} (he : PE X e (tV fc wE (evT Fs A))) (hN : X.N.Nodup) (hi : X.N[i]? = some x) (hx : Loc X.env.scope x) (hf : X.fn x = true ∨ X.env.scope.names.lookup x = some .local) (hs : swapsWith e (some (.Name x p)) pos.line X.env = pure false) :
    PS X (.Assign [.Name x p] e pos) (tS fc wE (evS Fs (.asg i A))) :=
  ⟨fun pins s σ H D I h => (ps_set hN hi hx he hs hf).run pins s σ H D I (asg_core h)⟩
/-- name = [e for ..] -/
theorem ss_asgLc {i : Nat} {x : Str} {elt tg iter : Expr} {scope : Scope} {own : List (Str × Nat)} {pos p pos2 : Pos} {A : E} {t : Tg} {it : I} (g : Good T Fs cl fc wE nf N sc so X) (hi : PI X tg iter (tI fc wE (evI Fs it))) (ok : BlkOk N sc scope own)
    (hg : ∀ X', Good T Fs cl fc wNo nf N (relS scope sc) (blkSo scope) X' → PG X' tg (tG fc t)) (he : ∀ X', Good T Fs cl fc wNo nf N (relS scope sc) (blkSo scope) X' → PE X' elt (tO fc wNo (evE Fs A))) (hn : nset iter = true)
    (hi2 : X.N[i]? = some x) (hx : X.env.scope.names.lookup x = some .local) (hk : X.env.scope.kind = .function) (hl : (p.line == pos.line) = true) (ha : (scope.names.any fun (n, k) => n == x && (k == .local || k == .cell)) = false) :
    PS X (.Assign [.Name x p] (.ListComp elt [⟨tg, iter, [], 0⟩] scope pos) pos2) (tS fc wE (evS Fs (.asg i (.lc (own.map (·.2)) A t it)))) := by
  refine ⟨fun pins s σ H D I h => (ps_setLc g.calm g.nd hi2 hx (sw_true hk hx hl ha) hi (by rw [g.N, g.sc]; exact ok) (fun s H C cl fp => hg _ (g.blk s H C cl fp)) (fun _ _ _ _ _ => pts_nil) (fun s H C cl fp => he _ (g.blk s H C cl fp)) (fun x => nset_folded hn _ x)).run pins s σ H D I ?_⟩
  obtain ⟨ρ, W, r, h⟩ := asg_core h
  rw [evT] at h
  exact lc_main turn_elt1 ((Lk.E Fs A).elt1.o) (evT_comp r h)
theorem ss_asgLcIf {i : Nat} {x : Str} {elt tg iter c : Expr} {scope : Scope} {own : List (Str × Nat)} {pos p pos2 : Pos} {A B : E} {t : Tg} {it : I} (g : Good T Fs cl fc wE nf N sc so X) (hi : PI X tg iter (tI fc wE (evI Fs it))) (ok : BlkOk N sc scope own)
    (hg : ∀ X', Good T Fs cl fc wNo nf N (relS scope sc) (blkSo scope) X' → PG X' tg (tG fc t)) (he : ∀ X', Good T Fs cl fc wNo nf N (relS scope sc) (blkSo scope) X' → PE X' elt (tO fc wNo (evE Fs A)))
    (hc : ∀ X', Good T Fs cl fc wNo nf N (relS scope sc) (blkSo scope) X' → PT X' c (tB fc wNo (evB Fs B))) (hn : nset iter = true)
    (hi2 : X.N[i]? = some x) (hx : X.env.scope.names.lookup x = some .local) (hk : X.env.scope.kind = .function) (hl : (p.line == pos.line) = true) (ha : (scope.names.any fun (n, k) => n == x && (k == .local || k == .cell)) = false) :
    PS X (.Assign [.Name x p] (.ListComp elt [⟨tg, iter, [c], 0⟩] scope pos) pos2) (tS fc wE (evS Fs (.asg i (.lcIf (own.map (·.2)) A t it B)))) := by
  refine ⟨fun pins s σ H D I h => (ps_setLc g.calm g.nd hi2 hx (sw_true hk hx hl ha) hi (by rw [g.N, g.sc]; exact ok) (fun s H C cl fp => hg _ (g.blk s H C cl fp)) (fun s H C cl fp => pts_one (hc _ (g.blk s H C cl fp))) (fun s H C cl fp => he _ (g.blk s H C cl fp)) (fun x => nset_folded hn _ x)).run pins s σ H D I ?_⟩
  obtain ⟨ρ, W, r, h⟩ := asg_core h
  rw [evT] at h
  exact lc_main turn_eltIf (((Lk.E Fs A).eltIf (Lk.E Fs B)).o) (evT_comp r h)
/-! while -/
theorem ss_while {c : Expr} {b : List Stmt} {C : E} {B : Ss} {pos} (hp : PassesOwn (model X.prog X.w) X.A X.env X.xe) (hc : PT X c (tB fc wE (evB Fs C))) (hb : PSs X b (tS fc wE (evSs Fs B))) : PS X (.While c b [] pos) (tS fc wE (evS Fs (.while_ C B))) := by
  refine ⟨fun pins s σ H D I h => (ps_while hp hc hb).run pins s σ H D I ?_⟩
  obtain ⟨ρ, W, r, h⟩ := h
  rw [evS] at h
  refine ⟨fun m σ H => ∃ ρi Wi, R fc ρi Wi σ H ∧ ExS fc wE D ρi Wi σ H (whileL (evB Fs C) (evSs Fs B) m ρi), ⟨_, ρ, W, r, h⟩, ?_⟩
  rintro m σ1 H1 ⟨ρ1, W1, r1, h1⟩
  cases m with
  | zero => exact h1.elim
  | succ m =>
    unfold whileL at h1
    refine ⟨ρ1, W1, r1, ?_⟩
    unfold ExB
    cases e1 : evB Fs C ρ1 with
    | none => simp only [e1] at h1; exact h1
    | some z =>
      cases z with
      | exc c r2 => simp only [e1] at h1; exact fun W' H' st r' => h1 σ1 W' H' (st.toS r1) r'
      | ok k r2 =>
        have kp := Lk.B Fs C ρ1 k r2 e1
        cases k with
        | false =>
          simp only [e1] at h1
          intro W' H' st r'
          rw [if_neg Bool.false_ne_true]
          exact h1 σ1 W' H' (st.toS r1) r'
        | true =>
          simp only [e1] at h1
          intro W' H' st r'
          rw [if_pos rfl]
          have h2 := h1.from (st.toS r1) kp
          refine ⟨fun σ' H' => ∃ ρi Wi, R fc ρi Wi σ' H' ∧ ExS fc wE D ρi Wi σ' H' (whileL (evB Fs C) (evSs Fs B) m ρi), fun σ' H' w => ⟨m, Nat.lt_succ_self m, w⟩, r2, W', r', ?_⟩
          cases e2 : evSs Fs B r2 with
          | none => simp only [e2] at h2; exact h2
          | some y =>
            have kb := LkS.Ss Fs B r2 y e2
            cases y with
            | nx r3 => simp only [e2] at h2; exact fun σ3 W3 H3 s3 r3' => ⟨r3, W3, r3', h2.from s3 kb⟩
            | cnt r3 => simp only [e2] at h2; exact fun σ3 W3 H3 s3 r3' => ⟨r3, W3, r3', h2.from s3 kb⟩
            | brk r3 => simp only [e2] at h2; exact h2
            | ret v g => simp only [e2] at h2; exact h2
            | exc c r3 => simp only [e2] at h2; exact h2
/-! for -/
theorem stay_for {lo : Option Nat} {C : (Addr → Prop) → Hp → Prop} {ρ1 ρx : Rho} (sty : Stays fc σ ρ1 C lo) {Wx : Wd} {σx : L2.St} {Hx : Hp} (rx : R fc ρx Wx σx Hx) (kp : Keep [] (lockO ρ1 lo) ρx) (hσ : ∀ i d, (lockO ρ1 lo).at i = some (.lck d) → σx[i]? = σ[i]?) {F : Addr → Prop} {H : Hp} (c : C F H) (k : Kp F Wx.F H Hx) : C Wx.F Hx := by
  cases lo with
  | none => exact sty _ _ _ _ c k
  | some i =>
    obtain ⟨d, v, hd, hv, hC⟩ := sty
    have e0 := lock_own hd
    have e := kp.lck i d (by simp) e0
    obtain ⟨v', _, A2, _, h1, _, s, _⟩ := Sl.at rx.sl (Rho.at_some e)
    rw [hσ i d e0, hv] at h1
    cases h1
    obtain ⟨a, _, o⟩ := s
    exact hC _ _ a o
/-- the outer end of a for loop, by the loop's -/
def forZ (r : Rho) (lo : Option Nat) : Option SR → Option SR
  | some (.nx r') => some (.nx (unlockO r r' lo))
  | some (.exc c r') => some (.exc c (unlockO r r' lo))
  | z => z
def forBody (Fs : Nat → Fn) (t : Tg) (b : Ss) : Mp.D → Rho → Option SR := fun x r => match asgT t x r with
      | none => none
      | some r' => evSs Fs b r'
theorem evS_for (t : Tg) (it : I) (b : Ss) : evS Fs (.for_ t it b) = (evI Fs it).then fun p r => forZ r p.2 (forL (forBody Fs t b) p.1 (lockO r p.2)) := by
  rw [evS]
  rfl
theorem forBody_keep {t : Tg} {b : Ss} : ∀ x, LkS (forBody Fs t b x) := fun x ρ z h => by
  unfold forBody at h
  cases e : asgT t x ρ with
  | none => simp [e] at h
  | some r1 => simp only [e] at h; exact SR.kp_trans (Keep.asgT e) (LkS.Ss Fs b r1 z h)
structure ForI (fc : Fc) (f : Mp.D → Rho → Option SR) (xs : List Mp.D) (C : (Addr → Prop) → Hp → Prop) (σ0 : L2.St) (ρ0 : Rho) (W0 : Wd) (H0 : Hp) (z : Option SR) (i : Nat) (σ : L2.St) (H : Hp) (ρi : Rho) (Wi : Wd) : Prop where
  r : R fc ρi Wi σ H
  c : C Wi.F H
  st : StpS ρ0 W0 σ0 H0 Wi σ H
  kp : Keep [] ρ0 ρi
  go : forL f (xs.drop i) ρi = z
theorem ss_for {iter tg : Expr} {b : List Stmt} {it : I} {t : Tg} {B : Ss} {pos : Pos} (hp : PassesOwn (model X.prog X.w) X.A X.env X.xe) (hc : X.calm = true) (hi : PI X tg iter (tI fc wE (evI Fs it))) (hg : PG X tg (tG fc t)) (hb : PSs X b (tS fc wE (evSs Fs B))) (hn : nset iter = true) :
    PS X (.For tg iter b [] pos) (tS fc wE (evS Fs (.for_ t it B))) := by
  refine ⟨fun pins s σ H D I h => (ps_for hp hc hi hg hb (fun x => nset_folded hn _ x)).run pins s σ H D I ?_⟩
  obtain ⟨ρ, W, r, h⟩ := h
  rw [evS_for] at h
  refine ⟨ρ, W, r, ?_⟩
  unfold M.then at h
  cases e1 : evI Fs it ρ with
  | none => simp only [e1] at h; exact h
  | some z =>
    cases z with
    | exc c r1 => simp only [e1] at h; exact fun W' H' st r' => h σ W' H' (st.toS r) r'
    | ok p r1 =>
      simp only [e1] at h
      intro W1 H1 J C st1 r1' src c0 sty
      have kI := Lk.I Fs it ρ p r1 e1
      have h := h.from (st1.toS r) kI
      have rl := r1'.lockO p.2
      refine ⟨fun i m σ' H' => m = p.1.length - i ∧ i ≤ p.1.length ∧ ∃ ρi Wi, ForI fc (forBody Fs t B) p.1 C σ (lockO r1 p.2) W1 H1 (forL (forBody Fs t B) p.1 (lockO r1 p.2)) i σ' H' ρi Wi,
        ⟨_, rfl, Nat.zero_le _, lockO r1 p.2, W1, rl, c0, StpS.refl, Keep.refl _ _, by simp⟩, ?_⟩
      rintro i m σ2 H2 ⟨rfl, hi, ρi, Wi, L⟩
      generalize hz : forL (forBody Fs t B) p.1 (lockO r1 p.2) = z at h L
      -- from the loop's start to here, seen from the outer place
      have out : ∀ {ρx : Rho} {Wx : Wd} {σx : L2.St} {Hx : Hp}, StpS (lockO r1 p.2) W1 σ H1 Wx σx Hx → StpS r1 W1 σ H1 Wx σx Hx := fun st => ⟨st.kp, fun j d e => st.lck j d (lockO_at e)⟩
      by_cases hlt : i < p.1.length
      · refine .inr ⟨src.go i _ _ L.c hlt, fun σ' H' => ∃ ρj Wj, ForI fc (forBody Fs t B) p.1 C σ (lockO r1 p.2) W1 H1 z (i + 1) σ' H' ρj Wj, fun σ' H' w => ⟨p.1.length - (i + 1), by omega, rfl, hlt, w⟩, fun x H3 y => ?_⟩
        obtain ⟨sm, d, hd, dn⟩ := src.yld i _ _ x H3 L.c hlt y
        have go := L.go
        have hdr : p.1.drop i = d :: p.1.drop (i + 1) := by
          obtain ⟨h1, h2⟩ := List.getElem?_eq_some_iff.mp hd
          rw [← h2]; exact List.drop_eq_getElem_cons h1
        rw [hdr] at go
        unfold forL at go
        obtain ⟨r3, st3⟩ := L.r.same sm
        cases ea : asgT t d ρi with
        | none =>
          simp only [forBody, ea] at go
          rw [← go] at h; exact h.elim
        | some ρt =>
          simp only [forBody, ea] at go
          refine ⟨ρi, Wi, d, ρt, r3, dn, ea, fun σ4 W4 r4 st4 off => ⟨ρt, W4, r4, ?_⟩⟩
          have sA : StpS ρi Wi σ2 H2 W4 σ4 H3 := ⟨(st3.kp L.r).trans (st4.kp r3), fun j d e => off.lck j d e⟩
          have sB : StpS (lockO r1 p.2) W1 σ H1 W4 σ4 H3 := L.st.trans L.kp sA
          have kB : Keep [] (lockO r1 p.2) ρt := L.kp.trans (Keep.asgT ea)
          have next : ∀ {r5 : Rho} {σ5 : L2.St} {W5 : Wd} {H5 : Hp}, Keep [] ρt r5 → forL (forBody Fs t B) (p.1.drop (i + 1)) r5 = z → StpS ρt W4 σ4 H3 W5 σ5 H5 → R fc r5 W5 σ5 H5 → ∃ ρj Wj, ForI fc (forBody Fs t B) p.1 C σ (lockO r1 p.2) W1 H1 z (i + 1) σ5 H5 ρj Wj := fun {r5 σ5 W5 H5} k5 g5 s5 r5' =>
            have sC := sB.trans kB s5
            ⟨r5, W5, r5', stay_for sty r5' (kB.trans k5) (fun j d e => sC.lck j d e) c0 sC.kp, sC, kB.trans k5, g5⟩
          cases e2 : evSs Fs B ρt with
          | none => simp only [e2] at go; rw [← go] at h; exact h.elim
          | some y =>
            have kb := LkS.Ss Fs B ρt y e2
            cases y with
            | nx r5 => simp only [e2] at go; exact fun σ5 W5 H5 s5 r5' => next kb go s5 r5'
            | cnt r5 => simp only [e2] at go; exact fun σ5 W5 H5 s5 r5' => next kb go s5 r5'
            | brk r5 =>
              simp only [e2] at go
              rw [← go] at h
              exact fun σ5 W5 H5 s5 r5' => h σ5 W5 H5 (out (ρx := r5) (sB.trans kB s5)) (r5'.unlockO r1 p.2)
            | ret v g => simp only [e2] at go; rw [← go] at h; exact h
            | exc c r5 =>
              simp only [e2] at go
              rw [← go] at h
              exact fun σ5 W5 H5 s5 r5' => h σ5 W5 H5 (out (ρx := r5) (sB.trans kB s5)) (r5'.unlockO r1 p.2)
      · have hi : i = p.1.length := by omega
        subst hi
        refine .inl ⟨src.stop _ _ L.c, ?_⟩
        have go := L.go
        rw [List.drop_length] at go
        unfold forL at go
        rw [← go] at h
        exact h σ2 Wi H2 (out (ρx := ρi) L.st) (L.r.unlockO r1 p.2)
end
end Mp
set_option Elab.async false
set_option linter.all false
set_option maxRecDepth 100000
set_option maxHeartbeats 4000000
set_option autoImplicit false
/-! Mp15: changes of own things; raise; several targets; slices; ranges -/
namespace Mp
open PySem PySem.Spec PyProof.Rows L2
section
variable {T : Tab} {Fs : Nat → Fn} {cl : Nat → Addr} {fc : Fc} {wE : Wish}
variable {nf : Nat} {N : List Str} {sc : Scope} {so : Str → Bool} {X : Cx} {ρ ρ' : Rho} {W W' : Wd} {σ σ' : L2.St} {H H' : Hp} {Q : VK} {pins : List (Addr × Obj)} {s : Shared} {D : Ends}
theorem Own1.ref {w : World} {F : Addr → Prop} {v : V} {d : Mp.D} {a : Addr} (o : Own1 w F H v d a) : v = .ref a := o.1
/-- an own thing is rewritten where it lies -/
theorem R.mut (r : R fc ρ W σ H) {i : Nat} {d : Mp.D} (e : ρ.getOwn i = some d) : ∃ a, σ[i]? = some (some (.ref a)) ∧ Own1 fc.w W.F H (.ref a) d a ∧
    ∀ o' d', (∀ H', Kp W.F W.F H H' → H' a = some o' → Own1 fc.w W.F H' (.ref a) d' a) → ∃ W', R fc (ρ.putOwn i d') W' σ (upd H a o') ∧ StpS ρ W σ H W' σ (upd H a o') := by
  unfold Rho.getOwn at e
  split at e
  · next d0 hd =>
    cases e
    obtain ⟨v, _, _, _, h1, _⟩ := Sl.at r.sl (Rho.at_some hd)
    obtain ⟨A', A2, r1, sub, ap, nd, sv, cov, _⟩ := r.drop i (some v)
    obtain ⟨a, rfl, ow⟩ := sv _ v (Rho.at_some hd) h1
    have ev := ow.ref
    subst ev
    refine ⟨a, h1, ow, fun o' d' hO => ?_⟩
    have ha := ap a (by simp)
    obtain ⟨o, ho, hn⟩ := ow.there
    rw [set_self h1] at r1
    obtain ⟨r2, k2⟩ := r1.write (a := a) (o' := o') ha.2.1 ha.2.2 (r.nf a (List.mem_append_left _ ha.1)) (r.a0 a ha.1) ho hn
    obtain ⟨A3, r3, mem⟩ := r2.fill (i := i) (sv := .own d') (v := .ref a) (A2 := [a]) (set_none_at (x := none) (at_lt hd)) ⟨a, rfl, hO _ k2 upd_same⟩ (by simp) fun b hb => by
      obtain rfl : b = a := by simpa using hb
      exact ⟨ha.2.1, ha.2.2, r.nf b (List.mem_append_left _ ha.1), r.a0 b ha.1⟩
    rw [Rho.set_set, set_self h1] at r3
    have ep : ρ.putOwn i d' = ρ.set i (some (.own d')) := by unfold Rho.putOwn; rw [hd]
    rw [ep]
    exact ⟨_, r3, k2, fun _ _ _ => rfl⟩
  · next n hd =>
    cases hg : ρ.g[n]? with
    | none => simp [hg] at e
    | some x =>
      cases x with
      | lst d0 =>
        simp only [hg, Option.some.injEq] at e
        subst e
        obtain ⟨v, _, _, _, h1, _, s, _⟩ := Sl.at r.sl (Rho.at_some hd)
        obtain ⟨_, a, hal, rfl⟩ := s
        obtain ⟨a', hal', haB, ow⟩ := GR.at r.g hg
        rw [hal] at hal'; cases hal'
        refine ⟨a, h1, ow, fun o' d' hO => ?_⟩
        obtain ⟨o, ho, hn⟩ := ow.there
        have nF : ¬ W.F a := r.nf a (List.mem_append_right _ haB)
        have nd := r.nd
        rw [List.nodup_append] at nd
        have nA : a ∉ W.A := fun z => nd.2.2 a z a haB rfl
        have ne : ∀ b, b ≠ a → upd H a o' b = H b := fun b h => upd_ne h
        have k : Kp W.F W.F H (upd H a o') := ⟨fun _ h => h, fun b x f q => by
          rw [ne b (fun z => nF (z ▸ f))]; exact q, fun b xs q => by
          rw [ne b (fun z => by subst z; rw [ho] at q; exact hn xs (Option.some.inj q))]; exact q⟩
        have sl := Sl.kp (more := []) k (fun b hb x q => by rw [ne b (fun z => nA (z ▸ hb))]; exact q) r.sl
        rw [List.append_nil] at sl
        have ep : ρ.putOwn i d' = { ρ with g := ρ.g.set n (.lst d') } := by unfold Rho.putOwn; rw [hd]
        rw [ep]
        refine ⟨W, ⟨sl, GR.set k r.g nd.2.1 hg hal (fun b hb hne x q => by rw [ne b hne]; exact q) (hO _ k upd_same), r.nd, r.nf, fun b f => ?_, r.a0, r.b0, fun b x q hb => ?_, r.f0, r.fm, r.al, fun b h => ?_⟩, k, fun _ _ _ => rfl⟩
        · rw [ne b (fun z => nF (z ▸ f))]; exact r.ft b f
        · have : b ≠ a := by
            rintro rfl
            rcases r.b0 b haB with z | z
            · exact hb z
            · rw [q] at z; cases z
          rw [ne b this]; exact r.un b x q hb
        · by_cases z : b = a
          · subst z; rw [upd_same]; simp
          · rw [ne b z]; exact r.gn b h
  · cases e
theorem Own1.lst {w : World} {F : Addr → Prop} {v : V} {xs : List Mp.D} {a : Addr} (o : Own1 w F H v (.list xs) a) : ∃ vs, H a = some (.lst vs) ∧ Dens w F H vs xs := by
  obtain ⟨_, ⟨vs, ds, e1, e2, r⟩ | ⟨_, _, e1, _⟩⟩ := o
  · cases e1; exact ⟨vs, e2, r⟩
  · cases e1
theorem Own1.ofLst {w : World} {F : Addr → Prop} {vs : List V} {xs : List Mp.D} {a : Addr} (e : H a = some (.lst vs)) (r : Dens w F H vs xs) : Own1 w F H (.ref a) (.list xs) a := ⟨rfl, .inl ⟨vs, xs, rfl, e, r⟩⟩
/-- behind a change's arguments -/
theorem mut_args {m : Mu} {i : Nat} {Es : Es} (h : tS fc wE (evS Fs (.mut m i Es)) D σ H) : ∃ ρ W, R fc ρ W σ H ∧ guardM m i ρ = true ∧
    (∀ P : List V → Hp → Prop, (∀ vs os ρ' W' H', R fc ρ' W' σ H' → ORs fc W' H' σ vs os → ExS fc wE D ρ' W' σ H' (mutS m i os ρ') → P vs H') → tOs fc wE (evEs Fs Es) σ H P) := by
  obtain ⟨ρ, W, r, h⟩ := h
  rw [evS] at h
  dsimp only at h
  by_cases hg : guardM m i ρ = true
  · rw [if_pos hg] at h
    refine ⟨ρ, W, r, hg, fun P k => ⟨ρ, W, r, ?_⟩⟩
    unfold M.then at h
    unfold ExOs
    cases e1 : evEs Fs Es ρ with
    | none => simp only [e1] at h; exact h
    | some z =>
      cases z with
      | exc c r1 => simp only [e1] at h; exact fun W' H' st r' => h σ W' H' (st.toS r) r'
      | ok os r1 =>
        simp only [e1] at h
        exact fun vs W' H' st r' o => k vs os r1 W' H' r' o (h.from (st.toS r) (Lk.Es Fs Es ρ os r1 e1))
  · rw [if_neg hg] at h; exact h.elim
/-- one change of an own list -/
theorem mut_list {m : Mu} {i : Nat} {os : List Opd} (hm : m.deep = false) (r : R fc ρ W σ H) {vs : List V} (o : ORs fc W H σ vs os) (h : ExS fc wE D ρ W σ H (mutS m i os ρ)) :
    ∃ ds d d', Dens fc.w W.F H vs ds ∧ ρ.getOwn i = some d ∧ muF m d ds = some d' ∧ ∃ a, σ[i]? = some (some (.ref a)) ∧ Own1 fc.w W.F H (.ref a) d a ∧
      ∀ o', (∀ H', Kp W.F W.F H H' → H' a = some o' → Own1 fc.w W.F H' (.ref a) d' a) → D.nx σ (upd H a o') := by
  unfold mutS at h
  cases e1 : datsO os with
  | none => simp only [e1] at h; exact h.elim
  | some ds =>
    simp only [e1, hm, Bool.false_eq_true, if_false] at h
    cases e2 : ρ.getOwn i with
    | none => simp only [e2] at h; exact h.elim
    | some d =>
      simp only [e2] at h
      cases e3 : muF m d ds with
      | none => simp only [e3, Option.map_none] at h; exact h.elim
      | some d' =>
        simp only [e3, Option.map_some] at h
        obtain ⟨a, h1, ow, k⟩ := r.mut e2
        refine ⟨ds, d, d', datsO_dens o e1, rfl, e3, a, h1, ow, fun o' hO => ?_⟩
        obtain ⟨W', r', st⟩ := k o' d' hO
        exact h σ W' _ st r'
theorem guard_list {m : Mu} {i : Nat} (hm : m.deep = false) (hk : m ≠ .setK) (g : guardM m i ρ = true) : ∃ xs, ρ.getOwn i = some (.list xs) := by
  unfold guardM at g
  rw [hm] at g
  simp only [Bool.false_eq_true, if_false] at g
  split at g
  · exact absurd rfl hk
  · cases g
  · rename_i h; exact ⟨_, h⟩
  · cases g
theorem list_tyV {i : Nat} {xs : List Mp.D} (r : R fc ρ W σ H) (e : ρ.getOwn i = some (.list xs)) : ∃ a, σ[i]? = some (some (.ref a)) ∧ tyV X.K "list" (.ref a) H := by
  obtain ⟨a, h1, ow, _⟩ := r.mut e
  obtain ⟨vs, e1, _⟩ := ow.lst
  exact ⟨a, h1, .inl ⟨rfl, vs, .of e1⟩⟩
theorem nc0_name {x : Str} {p : Pos} : nc0 (.Name x p) = true := rfl
theorem few_ok {cpos : Pos} {e : Expr} {es : List Expr} {env : Env} (hns : (e :: es).all ns = true) (hl : es.length ≤ 1) :
    ((backTo cpos (starEach (e :: es) env)).all (fun x => !x.1) && (backToKw cpos (keywordEach [] env)).all (fun x => x.1.isSome)
      && decide ((e :: es).length + ([] : List Keyword).length + (if ([] : List Keyword).isEmpty then 0 else 1) < 30)) = true := by
  simp only [List.all_cons, Bool.and_eq_true] at hns
  match es, hl with
  | [], _ => rw [ns_star hns.1]; rfl
  | [b], _ =>
    simp only [List.all_cons, Bool.and_eq_true] at hns
    rw [ns_star hns.1, ns_star hns.2.1]; rfl
theorem muF_app {d d' : Mp.D} {ds : List Mp.D} (h : muF .app d ds = some d') : ∃ xs v, d = .list xs ∧ ds = [v] ∧ xs.length < lim ∧ d' = .list (xs ++ [v]) := by
  cases d with
  | list xs =>
    match ds, h with
    | [v], h =>
      simp only [muF] at h
      by_cases hl : xs.length < lim
      · rw [if_pos hl] at h; cases h; exact ⟨xs, v, rfl, rfl, hl, rfl⟩
      · rw [if_neg hl] at h; cases h
    | [], h => simp [muF] at h
    | _ :: _ :: _, h => simp [muF] at h
  | _ => simp [muF] at h
theorem muF_ins {d d' : Mp.D} {ds : List Mp.D} (h : muF .ins d ds = some d') : ∃ xs i v, d = .list xs ∧ ds = [.int i, v] ∧ xs.length < lim ∧ 0 ≤ i ∧ i ≤ xs.length ∧ d' = .list (xs.take i.toNat ++ v :: xs.drop i.toNat) := by
  cases d with
  | list xs =>
    match ds, h with
    | [.int i, v], h =>
      simp only [muF] at h
      by_cases hl : xs.length < lim
      · rw [if_pos hl] at h
        unfold insD at h
        by_cases hi : 0 ≤ i ∧ i ≤ xs.length
        · rw [if_pos hi] at h
          simp only [Option.map_some, Option.some.injEq] at h
          exact ⟨xs, i, v, rfl, rfl, hl, hi.1, hi.2, h.symm⟩
        · rw [if_neg hi] at h; cases h
      · rw [if_neg hl] at h; cases h
    | [], h => simp [muF] at h
    | [a], h => cases a <;> simp [muF] at h
    | a :: _ :: _ :: _, h => cases a <;> simp [muF] at h
    | [.none, _], h => simp [muF] at h
    | [.bool _, _], h => simp [muF] at h
    | [.str _, _], h => simp [muF] at h
    | [.list _, _], h => simp [muF] at h
    | [.tuple _, _], h => simp [muF] at h
    | [.dict _, _], h => simp [muF] at h
  | _ => simp [muF] at h
theorem muF_setI {d d' : Mp.D} {ds : List Mp.D} (h : muF .setI d ds = some d') : ∃ xs i v j, d = .list xs ∧ ds = [v, .int i] ∧ L2.ixN xs.length i = some j ∧ d' = .list (xs.set j v) := by
  cases d with
  | list xs =>
    match ds, h with
    | [v, .int i], h =>
      simp only [muF, setD] at h
      cases hj : L2.ixN xs.length i with
      | none => simp [hj] at h
      | some j =>
        simp only [hj, Option.map_some, Option.some.injEq] at h
        exact ⟨xs, i, v, j, rfl, rfl, hj, h.symm⟩
    | [], h => simp [muF] at h
    | [a], h => simp [muF] at h
    | _ :: _ :: _ :: _, h => simp [muF] at h
    | [_, .none], h => simp [muF] at h
    | [_, .bool _], h => simp [muF] at h
    | [_, .str _], h => simp [muF] at h
    | [_, .list _], h => simp [muF] at h
    | [_, .tuple _], h => simp [muF] at h
    | [_, .dict _], h => simp [muF] at h
  | _ => simp [muF] at h
/-- xs.append(v) -/
theorem ss_append {i : Nat} {x : Str} {e : Expr} {Es : Es} {p apos cpos pos : Pos} (hN : X.N[i]? = some x) (hv : Vis X.env.scope x) (hd : (x == ("__debug__" : Str)) = false) (hc : (x == ("__classdict__" : Str)) = false)
    (ha : PA X [e] (tOs fc wE (evEs Fs Es))) (hn : ns e = true) (hline : (apos.endLine == cpos.line) = true) :
    PS X (.Expr (.Call (.Attribute (.Name x p) "append" apos) [e] [] cpos) pos) (tS fc wE (evS Fs (.mut .app i Es))) := by
  refine ⟨fun pins s σ H D I h => (ps_expr (pe_bm F.plainAttrs_list F.slot_list_append F.type_list_append mt_append (pe_var hN hv hd hc) ha (nc0_attr nc0_name _ _) (few_ok (by simp [hn]) (by simp)) hline (ns_star hn _ _) rfl) rfl).run pins s σ H D I ?_⟩
  obtain ⟨ρ, W, r, g, k⟩ := mut_args h
  obtain ⟨xs, hx⟩ := guard_list rfl (by simp) g
  obtain ⟨a, h1, ty⟩ := list_tyV (X := X) r hx
  refine ⟨.ref a, h1, ty, k _ fun vs os ρ' W' H' r' o hs => ?_⟩
  obtain ⟨ds, d, d', dn, e1, e2, a', h1', ow, fin⟩ := mut_list rfl r' o hs
  rw [h1] at h1'; cases h1'
  obtain ⟨ys, v, rfl, rfl, hl, rfl⟩ := muF_app e2
  obtain ⟨ws, hw, dw⟩ := ow.lst
  cases dn with
  | cons dv t =>
    cases t
    exact ⟨a, ws, _, rfl, rfl, hw, by rw [dw.len, ← lim_eq]; exact hl, fin _ fun H2 k2 e3 => Own1.ofLst e3 (Dens.app (dw.kp k2) (.cons (dv.kp k2) .nil))⟩
/-- xs.insert(i, v) -/
theorem ss_insert {i : Nat} {x : Str} {e e2 : Expr} {Es : Es} {p apos cpos pos : Pos} (hN : X.N[i]? = some x) (hv : Vis X.env.scope x) (hd : (x == ("__debug__" : Str)) = false) (hc : (x == ("__classdict__" : Str)) = false)
    (ha : PA X [e, e2] (tOs fc wE (evEs Fs Es))) (hn : ns e = true) (hn2 : ns e2 = true) (hline : (apos.endLine == cpos.line) = true) :
    PS X (.Expr (.Call (.Attribute (.Name x p) "insert" apos) [e, e2] [] cpos) pos) (tS fc wE (evS Fs (.mut .ins i Es))) := by
  refine ⟨fun pins s σ H D I h => (ps_expr (pe_bm F.plainAttrs_list F.slot_list_insert F.type_list_insert mt_insert (pe_var hN hv hd hc) ha (nc0_attr nc0_name _ _) (few_ok (by simp [hn, hn2]) (by simp)) hline (ns_star hn _ _) (ns_plain (by simp [hn2]))) rfl).run pins s σ H D I ?_⟩
  obtain ⟨ρ, W, r, g, k⟩ := mut_args h
  obtain ⟨xs, hx⟩ := guard_list rfl (by simp) g
  obtain ⟨a, h1, ty⟩ := list_tyV (X := X) r hx
  refine ⟨.ref a, h1, ty, k _ fun vs os ρ' W' H' r' o hs => ?_⟩
  obtain ⟨ds, d, d', dn, e1, e2, a', h1', ow, fin⟩ := mut_list rfl r' o hs
  rw [h1] at h1'; cases h1'
  obtain ⟨ys, j, v, rfl, rfl, hl, hj, hj2, rfl⟩ := muF_ins e2
  obtain ⟨ws, hw, dw⟩ := ow.lst
  cases dn with
  | cons dj t =>
    cases dj
    cases t with
    | cons dv t =>
      cases t
      have hlen := dw.len
      have hz : ys.length < sizeLine := by rw [← lim_eq]; exact hl
      refine ⟨a, ws, j, _, rfl, rfl, hw, by rw [hlen]; exact hz, hj, ?_, fin _ fun H2 k2 e3 => Own1.ofLst e3 ?_⟩
      · have : (sizeLine : Nat) < 2 ^ 63 := by rw [sizeLine_eq]; decide
        omega
      · have dw2 := dw.kp k2
        simpa using Dens.app (dw2.take j.toNat) (.cons (dv.kp k2) (dw2.drop j.toNat))
theorem nsw {e : Expr} (h : (match e with | .ListComp .. | .SetComp .. | .DictComp .. => false | _ => true) = true) (t : Option Expr) (l : Nat) (env : Env) : swapsWith e t l env = pure false := by
  cases e <;> first | rfl | cases h
theorem nsw_sub {e o i : Expr} {pos : Pos} (l : Nat) (env : Env) : swapsWith e (some (.Subscript o i pos)) l env = pure false := by
  cases e <;> rfl
theorem sst_sub {e o i : Expr} {pos : Pos} (env : Env) : swappedStores [.Subscript o i pos] e env = pure none := by
  cases e <;> rfl
/-- xs[j] = v -/
theorem ss_setI {i : Nat} {x : Str} {e j : Expr} {A B : E} {p spos pos : Pos} (hN : X.N[i]? = some x) (hv : Vis X.env.scope x) (hd : (x == ("__debug__" : Str)) = false) (hc : (x == ("__classdict__" : Str)) = false)
    (he : PE X e (tO fc wE (evE Fs A))) (hj : PE X j (tO fc wE (evE Fs B)))
    (ha : ∀ v, assign (.Subscript (.Name x p) j spos) X.env v = (do
      let ov ← holding [v] (eval (.Name x p) X.env)
      let iv ← holding [v, ov] (eval j X.env)
      standAt spos
      holding [v, ov, iv] (setItem ov iv v)
      release [v, ov, iv] [])) :
    PS X (.Assign [.Subscript (.Name x p) j spos] e pos) (tS fc wE (evS Fs (.mut .setI i (.cons A (.cons B .nil))))) := by
  refine ⟨fun pins s σ H D I h => (ps_asg he (pg_sub (pe_var hN hv hd hc) hj set_list ha) (show swapsWith e (some (.Subscript (.Name x p) j spos)) pos.line X.env = pure false from nsw_sub _ _) (sst_sub _) rfl).run pins s σ H D I ?_⟩
  obtain ⟨ρ, W, r, g, k⟩ := mut_args h
  have k := k (fun vs H' => ∀ v w, vs = [v, w] → ∃ p' xs k' j', some (V.ref p') = some (V.ref p') ∧ σ[i]? = some (some (.ref p')) ∧ w = .int k' ∧ H' p' = some (.lst xs) ∧ L2.ixN xs.length k' = some j' ∧ D.nx σ (upd H' p' (.lst (xs.set j' v)))) (fun vs os ρ' W' H' r' o hs => ?_)
  · obtain ⟨ρ0, W0, r0, k⟩ := k
    rw [show evEs Fs (.cons A (.cons B .nil)) = (evE Fs A).bnd fun y => (evE Fs B).bnd fun z => .ok [y, z] from by simp only [evEs, M.bnd_assoc, M.ok_bnd]] at k
    obtain ⟨h0, hx, hk⟩ := k.bnd
    refine tO_of r0 h0 hx fun o1 ρ1 e1 v W1 H1 st1 r1 q1 => ?_
    have k1 := hk o1 ρ1 e1 W1 H1 st1 r1
    obtain ⟨p', h1⟩ : ∃ p', σ[i]? = some (some (.ref p')) := by
      obtain ⟨xs, hxs⟩ := guard_list rfl (by simp) g
      obtain ⟨a, h1, _⟩ := r.mut hxs
      exact ⟨a, h1⟩
    refine ⟨.ref p', h1, ?_⟩
    obtain ⟨g0, gx, gk⟩ := k1.bnd
    refine tO_of r1 g0 gx fun o2 ρ2 e2 w W2 H2 st2 r2 q2 => ?_
    have k2 := gk o2 ρ2 e2 W2 H2 st2 r2
    obtain ⟨p2, xs, k', j', _, hp2, ew, hh, hj', fin⟩ := k2 [v, w] W2 H2 (Stp.refl _ _) r2 (.cons (q1.stp st2 r1) (.cons q2 .nil)) v w rfl
    rw [h1] at hp2; cases hp2
    exact ⟨p', xs, k', j', rfl, ew, hh, hj', fin⟩
  · rintro v w rfl
    obtain ⟨ds, d, d', dn, e1, e2, a', h1', ow, fin⟩ := mut_list rfl r' o hs
    obtain ⟨ys, j', z, j2, rfl, rfl, hj2, rfl⟩ := muF_setI e2
    obtain ⟨ws, hw, dw⟩ := ow.lst
    cases dn with
    | cons dv t =>
      cases t with
      | cons dj t =>
        cases dj
        exact ⟨a', ws, j', j2, rfl, h1', rfl, hw, by rw [dw.len]; exact hj2, fin _ fun H2 k2 e3 => Own1.ofLst e3 (Dens.set j2 (dw.kp k2) (dv.kp k2))⟩
/-- raise X() -/
theorem ss_raise {x : Str} {c : Nat} {p pos pos' : Pos} (hc : X.calm = true) (tk : Takes X (wx cl wE)) (he : ExcAt X x (cl c)) (hg : Gl X x) (hdb : (x == ("__debug__" : Str)) = false) :
    PS X (.Raise (some (.Call (.Name x p) [] [] pos)) none pos') (tS fc wE (evS Fs (.raise c))) := by
  obtain ⟨bmB, B, newId, initId, F, q⟩ := he.q
  refine ⟨fun pins s σ H D I h => (ps_raise0 hc tk F q he.m he.k he.r hg hdb).run pins s σ H D I ?_⟩
  obtain ⟨ρ, W, r, h⟩ := h
  rw [evS] at h
  intro t ht
  obtain ⟨r2, st⟩ := r.same (same_upd (o := .tup []) ht)
  exact ⟨c, rfl, rfl, h σ W _ (st.toS r) r2⟩
/-- a, (b, c), .. = e -/
theorem ss_unp {tg e : Expr} {t : Tg} {A : E} {pos : Pos} (he : PE X e (tO fc wE (evE Fs A))) (hg : PG X tg (tG fc t)) (hs : swapsWithSole [tg] e pos.line X.env = pure false) (hw : swappedStores [tg] e X.env = pure none) (hn : ns tg = true) :
    PS X (.Assign [tg] e pos) (tS fc wE (evS Fs (.unp t A))) := by
  refine ⟨fun pins s σ H D I h => (ps_asg he hg hs hw (by rw [ns_assign hn]; rfl)).run pins s σ H D I ?_⟩
  obtain ⟨ρ, W, r, h⟩ := h
  rw [evS] at h
  refine ⟨ρ, W, r, ?_⟩
  unfold M.then at h
  unfold ExO
  cases e1 : evE Fs A ρ with
  | none => simp only [e1] at h; exact h
  | some z =>
    cases z with
    | exc c r1 => simp only [e1] at h; exact fun W' H' st r' => h σ W' H' (st.toS r) r'
    | ok v r1 =>
      simp only [e1] at h
      intro u W' H' st r' o
      cases v with
      | d d =>
        simp only at h
        cases e2 : asgT t d r1 with
        | none => simp only [e2, Option.map_none] at h; exact h.elim
        | some r2 =>
          simp only [e2, Option.map_some] at h
          have kp := Lk.E Fs A ρ _ r1 e1
          exact ⟨r1, W', d, r2, r', o, e2, fun σ' W2 r2' st2 off => h σ' W2 H' ⟨(st.toS r).kp.trans (st2.kp r'), fun j d e => off.lck j d (kp.lck j d (by simp) e)⟩ r2'⟩
      | _ => exact h.elim
/-- x += e, x -= e -/
theorem ss_aug {i : Nat} {x : Str} {e : Expr} {A : E} {o : Op} {op : Operator} {f : Int → Int → Int} {p pos : Pos} (he : PE X e (tO fc wE (evE Fs A))) (hN : X.N.Nodup) (hi : X.N[i]? = some x) (hx : Loc X.env.scope x) (hf : X.fn x = true ∨ X.env.scope.names.lookup x = some .local)
    (ho : PIp X op (ipI f)) (hof : ∀ a b z, opF o [.int a, .int b] = some (.int z) → z = f a b) : PS X (.AugAssign (.Name x p) op e pos) (tS fc wE (evS Fs (.aug i o A))) := by
  refine ⟨fun pins s σ H D I h => (ps_aug hN hi hx he ho hf).run pins s σ H D I ?_⟩
  obtain ⟨ρ, W, r, h⟩ := h
  rw [evS] at h
  dsimp only at h
  by_cases hint : intAt ρ i = true
  case neg => rw [if_neg hint] at h; exact h.elim
  rw [if_pos hint] at h
  obtain ⟨v, hv⟩ : ∃ v, σ[i]? = some (some v) := by
    unfold intAt at hint
    split at hint
    · next n hn =>
      obtain ⟨v, _, _, _, h1, _⟩ := Sl.at r.sl (Rho.at_some hn)
      exact ⟨v, h1⟩
    · cases hint
  refine ⟨v, hv, ρ, W, r, ?_⟩
  unfold M.then at h
  unfold ExO
  cases e1 : evE Fs A ρ with
  | none => simp only [e1] at h; exact h
  | some z =>
    cases z with
    | exc c r1 => simp only [e1] at h; exact fun W' H' st r' => h σ W' H' (st.toS r) r'
    | ok y r1 =>
      simp only [e1] at h
      intro u W' H' st r' o'
      unfold augM at h
      split at h
      · next a b c ha hb =>
        split at h
        · next z hz =>
          have hz := hof a b z hz
          subst hz
          obtain ⟨v', _, _, _, h1, _, s1, _⟩ := Sl.at r'.sl (Rho.at_some ha)
          rw [hv] at h1; cases h1
          have dv := s1.2
          cases dv
          have cu := o'.cur r' hb
          have := cu.int
          subst this
          cases e2 : wr r1 i (.dat (.int (f a b))) with
          | none => simp only [e2, Option.map_none] at h; exact h.elim
          | some r2 =>
            simp only [e2, Option.map_some] at h
            obtain ⟨W2, r2', st2⟩ := r'.wrD e2 (.int (f a b))
            have kp := Lk.E Fs A ρ _ r1 e1
            refine ⟨a, b, rfl, rfl, h _ W2 H' ⟨(st.toS r).kp.trans (st2.kp r'), fun j d e => ?_⟩ r2'⟩
            rw [List.getElem?_set_ne]
            rintro rfl
            exact (wr_eq e2).2 d (kp.lck _ d (by simp) e)
        · exact h.elim
      · exact h.elim
end
end Mp
set_option Elab.async false
set_option linter.all false
set_option maxRecDepth 100000
set_option maxHeartbeats 4000000
set_option autoImplicit false
/-! Mp16: operations as values: all forms -/
namespace Mp
open PySem PySem.Spec PyProof.Rows L2
section
variable {T : Tab} {Fs : Nat → Fn} {cl : Nat → Addr} {fc : Fc} {wE : Wish}
variable {nf : Nat} {N : List Str} {sc : Scope} {so : Str → Bool} {X : Cx} {ρ ρ' : Rho} {W W' : Wd} {σ σ' : L2.St} {H H' : Hp} {Q : VK} {pins : List (Addr × Obj)} {s : Shared} {D : Ends}
theorem ExV.bnd {α : Type} {ma : M α} {f : α → M SV} (h : ExV fc wE (ma.bnd f) ρ W σ H Q) :
    (ma ρ = none → False) ∧ (∀ c ρ', ma ρ = some (.exc c ρ') → ∀ W' H', Stp W H W' H' → R fc ρ' W' σ H' → wE c σ H') ∧
    (∀ a ρ', ma ρ = some (.ok a ρ') → ∀ W' H', Stp W H W' H' → R fc ρ W σ H → R fc ρ' W' σ H' → ExV fc wE (f a) ρ' W' σ H' Q) := by
  unfold ExV M.bnd at h
  refine ⟨fun e => by rw [e] at h; exact h, fun c ρ' e => by rw [e] at h; exact h, fun a ρ' e W' H' s r0 r => ?_⟩
  rw [e] at h
  unfold ExV
  cases e2 : f a ρ' with
  | none => simp only [e2] at h
  | some x =>
    cases x with
    | exc c ρ2 =>
      simp only [e2] at h
      intro W2 H2 s2 r2
      exact h W2 H2 (s.trans s2) r2
    | ok o ρ2 =>
      simp only [e2] at h
      intro v W2 H2 s2 r2 b
      refine h v W2 H2 (s.trans s2) r2 ?_
      obtain ⟨A2, sv, nd, ha⟩ := b.sv
      refine ⟨A2, sv, nd, fun a z => ⟨?_, (ha a z).2⟩⟩
      cases eH : H a with
      | none => rfl
      | some o => exact absurd (ha a z).1 (s.gone a (by rw [eH]; simp))
/-- an operation at its end: the data, what is asked of the value -/
def FinX (fc : Fc) (o : Op) (os : List Opd) (ρ : Rho) (W : Wd) (H : Hp) (Q : VK) : Prop :=
  ∃ ds b d, resAll ρ os = some (ds, b) ∧ opF o ds = some d ∧ (b = true → flat d = true) ∧ ∀ z H', Same H H' → NewO o fc.w W.F H H' z d → Q z H'
theorem ExV.fin {o : Op} {os : List Opd} (r : R fc ρ W σ H) (h : ExV fc wE (.get fun r => opFinT o (opFin o os r)) ρ W σ H Q) : FinX fc o os ρ W H Q := by
  unfold ExV M.get opFin at h
  cases e1 : resAll ρ os with
  | none => simp [e1, opFinT] at h
  | some x =>
    obtain ⟨ds, b⟩ := x
    simp only [e1] at h
    cases e2 : opF o ds with
    | none => simp [e2, opFinT] at h
    | some d =>
      simp only [e2] at h
      by_cases hb : (b && !flat d) = true
      · simp [hb, opFinT] at h
      · rw [if_neg hb] at h
        simp only [opFinT] at h
        refine ⟨ds, b, d, e1, e2, fun z => by simpa [z] using hb, fun z H' sm n => ?_⟩
        obtain ⟨W', r', s', bk⟩ := New.back r sm n
        exact h z W' H' s' r' bk
theorem FinX.run {o : Op} {os : List Opd} {act : List Value → Sem Value} (ha : OpD X act o) (hw : X.w = fc.w) (I : Inv X pins σ H s) (r : R fc ρ W σ H) {vs us} (q : ORs fc W H σ vs os) (rv : Vals vs us) (f : FinX fc o os ρ W H Q) :
    wpAny (model X.prog X.w) X.A (act us) (EP X pins σ Q) X.xe s := by
  obtain ⟨ds, b, d, e1, e2, hf, k⟩ := f
  exact ha pins s σ H fc.w W.F vs us ds b d Q hw I (q.curs r e1) rv hf e2 k
/-- behind operands, as values -/
theorem tV_bnd {m : M Opd} {f : Opd → M SV} {P : VK} (r : R fc ρ W σ H) (h : ExV fc wE (m.bnd f) ρ W σ H Q)
    (hk : ∀ o ρ' v W' H', Stp W H W' H' → R fc ρ' W' σ H' → OR fc W' H' σ v o → ExV fc wE (f o) ρ' W' σ H' Q → P v H') : tO fc wE m σ H P := by
  obtain ⟨h0, hx, hk'⟩ := h.bnd
  exact tO_of r h0 hx fun o ρ' e v W' H' s r' o' => hk o ρ' v W' H' s r' o' (hk' o ρ' e W' H' s r r')
theorem tVs_bnd {m : M (List Opd)} {f : List Opd → M SV} {P : List V → Hp → Prop} (r : R fc ρ W σ H) (h : ExV fc wE (m.bnd f) ρ W σ H Q)
    (hk : ∀ o ρ' v W' H', Stp W H W' H' → R fc ρ' W' σ H' → ORs fc W' H' σ v o → ExV fc wE (f o) ρ' W' σ H' Q → P v H') : tOs fc wE m σ H P := by
  obtain ⟨h0, hx, hk'⟩ := h.bnd
  exact tOs_of r h0 hx fun o ρ' e v W' H' s r' o' => hk o ρ' v W' H' s r' o' (hk' o ρ' e W' H' s r r')
theorem run1V {a : Expr} {ma : M Opd} {f : Opd → M SV} (ha : PE X a (tO fc wE ma)) (I : Inv X pins σ H s) (r : R fc ρ W σ H) (h : ExV fc wE (ma.bnd f) ρ W σ H Q) {P : Value → Shared → Prop}
    (k : ∀ x ρ1 W1 v u H1 s1, Inv X pins σ H1 s1 → RelV v u → R fc ρ1 W1 σ H1 → Stp W H W1 H1 → OR fc W1 H1 σ v x → ExV fc wE (f x) ρ1 W1 σ H1 Q → P u s1) : wpAny (model X.prog X.w) X.A (eval a X.env) P X.xe s := by
  refine thn (ha.run pins s σ H (fun v H1 => ∃ x ρ1 W1, R fc ρ1 W1 σ H1 ∧ Stp W H W1 H1 ∧ OR fc W1 H1 σ v x ∧ ExV fc wE (f x) ρ1 W1 σ H1 Q) I (tV_bnd r h fun x ρ1 v W1 H1 s1 r1 o1 h1 => ⟨x, ρ1, W1, r1, s1, o1, h1⟩)) fun u s1 hh => ?_
  obtain ⟨v, H1, I1, rv, x, ρ1, W1, r1, st, o1, h1⟩ := hh
  exact k x ρ1 W1 v u H1 s1 I1 rv r1 st o1 h1
theorem runsV {es : List Expr} {ms : M (List Opd)} {f : List Opd → M SV} {pos : Pos} (ha : PA X es (tOs fc wE ms)) (I : Inv X pins σ H s) (r : R fc ρ W σ H) (h : ExV fc wE (ms.bnd f) ρ W σ H Q) {P : List Value → Shared → Prop}
    (k : ∀ xs ρ1 W1 vs us H1 s1, Inv X pins σ H1 s1 → Vals vs us → R fc ρ1 W1 σ H1 → Stp W H W1 H1 → ORs fc W1 H1 σ vs xs → ExV fc wE (f xs) ρ1 W1 σ H1 Q → P us s1) : wpAny (model X.prog X.w) X.A (spliced (backTo pos (starEach es X.env))) P X.xe s := by
  refine thn (ha.run pos pins s σ H (fun vs H1 => ∃ x ρ1 W1, R fc ρ1 W1 σ H1 ∧ Stp W H W1 H1 ∧ ORs fc W1 H1 σ vs x ∧ ExV fc wE (f x) ρ1 W1 σ H1 Q) I (tVs_bnd r h fun x ρ1 v W1 H1 s1 r1 o1 h1 => ⟨x, ρ1, W1, r1, s1, o1, h1⟩)) fun u s1 hh => ?_
  obtain ⟨vs, H1, I1, rv, x, ρ1, W1, r1, st, o1, h1⟩ := hh
  exact k x ρ1 W1 vs u H1 s1 I1 rv r1 st o1 h1
theorem evT_op2 (o : Op) (A B : E) : evT Fs (.op o (.cons A (.cons B .nil))) = (evE Fs A).bnd fun x => (evE Fs B).bnd fun y => .get fun r => opFinT o (opFin o [x, y] r) := by
  simp only [evT, evEs, M.bnd_assoc, M.ok_bnd]
theorem evT_op1 (o : Op) (A : E) : evT Fs (.op o (.cons A .nil)) = (evE Fs A).bnd fun x => .get fun r => opFinT o (opFin o [x] r) := by
  simp only [evT, evEs, M.bnd_assoc, M.ok_bnd]
theorem evT_op3 (o : Op) (A B C : E) : evT Fs (.op o (.cons A (.cons B (.cons C .nil)))) = (evE Fs A).bnd fun x => (evE Fs B).bnd fun y => (evE Fs C).bnd fun z => .get fun r => opFinT o (opFin o [x, y, z] r) := by
  simp only [evT, evEs, M.bnd_assoc, M.ok_bnd]
theorem bin_V {a b : Expr} {A B : E} {o : Op} {f : Value → Value → Sem Value} (ha : PE X a (tO fc wE (evE Fs A))) (hb : PE X b (tO fc wE (evE Fs B))) (hop : OpD X (act2 f) o) (hw : X.w = fc.w) (I : Inv X pins σ H s)
    (h : tV fc wE (evT Fs (.op o (.cons A (.cons B .nil)))) σ H Q) :
    wpAny (model X.prog X.w) X.A (eval a X.env) (fun u s1 => wpAny (model X.prog X.w) X.A (eval b X.env) (fun u2 s2 => wpAny (model X.prog X.w) X.A (f u u2) (EP X pins σ Q) X.xe s2) X.xe s1) X.xe s := by
  obtain ⟨ρ, W, r, h⟩ := h
  rw [evT_op2] at h
  refine run1V ha I r h fun x ρ1 W1 v u H1 s1 I1 rv r1 st o1 h1 => ?_
  refine run1V hb I1 r1 h1 fun y ρ2 W2 v2 u2 H2 s2 I2 rv2 r2 st2 o2 h2 => ?_
  exact FinX.run (act := act2 f) hop hw I2 r2 (.cons (o1.stp st2 r1) (.cons o2 .nil)) (.cons rv (.cons rv2 .nil)) (h2.fin r2)
theorem un_V {a : Expr} {A : E} {o : Op} {f : Value → Sem Value} (ha : PE X a (tO fc wE (evE Fs A))) (hop : OpD X (act1 f) o) (hw : X.w = fc.w) (I : Inv X pins σ H s)
    (h : tV fc wE (evT Fs (.op o (.cons A .nil))) σ H Q) :
    wpAny (model X.prog X.w) X.A (eval a X.env) (fun u s1 => wpAny (model X.prog X.w) X.A (f u) (EP X pins σ Q) X.xe s1) X.xe s := by
  obtain ⟨ρ, W, r, h⟩ := h
  rw [evT_op1] at h
  refine run1V ha I r h fun x ρ1 W1 v u H1 s1 I1 rv r1 st o1 h1 => ?_
  exact FinX.run (act := act1 f) hop hw I1 r1 (.cons o1 .nil) (.cons rv .nil) (h1.fin r1)
theorem sv_bin {a b : Expr} {A B : E} {o : Op} {op : Operator} {pos : Pos} (ha : PE X a (tO fc wE (evE Fs A))) (hb : PE X b (tO fc wE (evE Fs B))) (hop : OpD X (act2 (binaryOp op)) o) (hw : X.w = fc.w) :
    PE X (.BinOp a op b pos) (tV fc wE (evT Fs (.op o (.cons A (.cons B .nil))))) := ⟨fun _ _ _ _ _ I h => wpAny_BinOp (bin_V ha hb hop hw I h)⟩
theorem sv_cmp {a b : Expr} {A B : E} {o : Op} {op : CmpOp} {pos : Pos} (ha : PE X a (tO fc wE (evE Fs A))) (hb : PE X b (tO fc wE (evE Fs B))) (hop : OpD X (act2 (compareOp op)) o) (hw : X.w = fc.w) (hn : nset b = true) :
    PE X (.Compare a [op] [b] pos) (tV fc wE (evT Fs (.op o (.cons A (.cons B .nil))))) := ⟨fun _ _ _ _ _ I h => wpAny_Compare1 (bin_V ha hb hop hw I h) (nset_marks hn op)⟩
theorem sv_un {a : Expr} {A : E} {o : Op} {op : UnaryOp} {pos : Pos} (ha : PE X a (tO fc wE (evE Fs A))) (hop : OpD X (act1 (unaryOp op)) o) (hw : X.w = fc.w) :
    PE X (.UnaryOp op a pos) (tV fc wE (evT Fs (.op o (.cons A .nil)))) := ⟨fun _ _ _ _ _ I h => UnaryOp_ (un_V ha hop hw I h)⟩
theorem sv_idx {a b : Expr} {A B : E} {pos : Pos} (ha : PE X a (tO fc wE (evE Fs A))) (hb : PE X b (tO fc wE (evE Fs B))) (hop : OpD X (act2 (subscriptTail a b)) .idx) (hw : X.w = fc.w) :
    PE X (.Subscript a b pos) (tV fc wE (evT Fs (.op .idx (.cons A (.cons B .nil))))) := ⟨fun _ _ _ _ _ I h => Subscript_ (bin_V ha hb hop hw I h)⟩
theorem sv_blt {x : Str} {f : Value} {e0 : Expr} {es : List Expr} {Es : Es} {o : Op} {p pos : Pos} (hb : bootBuiltins x = some f) (hg : Gl X x) (hm : X.mg x = none) (ha : PA X (e0 :: es) (tOs fc wE (evEs Fs Es))) (hop : OpD X (fun us => call f us) o) (hw : X.w = fc.w) (hns : (e0 :: es).all ns = true)
    (hf : (∃ id, f = .builtin id) ∨ ∃ t, f = .type t) (hx : x ≠ "__name__") (hd : (x == ("__debug__" : Str)) = false) :
    PE X (.Call (.Name x p) (e0 :: es) [] pos) (tV fc wE (evT Fs (.op o Es))) := by
  refine ⟨fun pins s σ H Q I h => ?_⟩
  obtain ⟨ρ, W, r, h⟩ := h
  rw [show evT Fs (.op o Es) = _ from by rw [evT]] at h
  have go : wpAny (model X.prog X.w) X.A (spliced (backTo pos (starEach (e0 :: es) X.env))) (fun us s1 => wpAny (model X.prog X.w) X.A (call f us) (EP X pins σ Q) X.xe s1) X.xe s := runsV ha I r h fun xs ρ1 W1 vs us H1 s1 I1 rv r1 st o1 h1 =>
    FinX.run (act := fun us => call f us) hop hw I1 r1 o1 rv (h1.fin r1)
  refine wpAny_Call_Name_kw (ld_blt I hg hm hb ?_ hx hd)
  simp only [List.all_cons, Bool.and_eq_true] at hns
  rcases hf with ⟨id, rfl⟩ | ⟨t, rfl⟩
  · exact PyProof.Rows.callWith_builtin1 go (ns_star hns.1 _ _) (ns_plain hns.2)
  · exact PyProof.Rows.callWith_type1 go (ns_star hns.1 _ _) (ns_plain hns.2)
/-! an operation's value as an operand -/
theorem opFin_T (o : Op) (os : List Opd) (r : Rho) : ((opFinT o (opFin o os r)).bind fun v => v.opd) = opFin o os r := by
  unfold opFin
  cases resAll r os with
  | none => rfl
  | some x =>
    obtain ⟨ds, b⟩ := x
    dsimp only
    cases opF o ds with
    | none => rfl
    | some d =>
      dsimp only
      split
      · rfl
      · unfold opFinT
        dsimp only
        split <;> rfl
theorem get_bind {α β : Type} (f : Rho → Option α) (g : α → Option β) : (M.get f).bnd (fun a => M.get fun _ => g a) = M.get fun r => (f r).bind g := by
  funext r
  show (match (match f r with | none => none | some a => some (R1.ok a r)) with
    | none => none
    | some (.exc c r') => some (.exc c r')
    | some (.ok a r') => match g a with | none => none | some b => some (R1.ok b r')) = match (f r).bind g with | none => none | some b => some (R1.ok b r)
  cases f r with
  | none => rfl
  | some a => rfl
theorem evE_op (o : Op) (es : Es) : evE Fs (.op o es) = (evT Fs (.op o es)).bnd fun v => .get fun _ => v.opd := by
  rw [evE, evT, M.bnd_assoc]
  congr 1
  funext os
  rw [get_bind]
  congr 1
  funext r
  exact (opFin_T o os r).symm
theorem evE_lst (es : Es) : evE Fs (.lst es) = (evT Fs (.lst es)).bnd fun v => .get fun _ => v.opd := by
  rw [evE, evT, M.bnd_assoc]
  congr 1
  funext os
  rw [get_bind]
  congr 1
  funext r
  unfold lstFin
  cases datsO os with
  | none => rfl
  | some ds =>
    simp only [Option.bind_some]
    cases szLst ds <;> rfl
theorem evE_call (f : Nat) (es : Es) : evE Fs (.call f es) = (evT Fs (.call f es)).bnd fun v => .get fun _ => v.opd := by
  rw [evE, evT, M.bnd_assoc]
/-- a list display as a value -/
theorem sv_lst {es : List Expr} {Es : Es} {pos} (ha : PA X es (tOs fc wE (evEs Fs Es))) : PE X (.List es pos) (tV fc wE (evT Fs (.lst Es))) := by
  refine ⟨fun pins s σ H Q I h => ?_⟩
  rw [evT] at h
  obtain ⟨ρ, W, r, h⟩ := h
  refine (pe_lst ha).run pins s σ H Q I (tVs_bnd r h fun os ρ' vs W' H' st r' o' h' => ?_)
  unfold ExV M.get lstFin at h'
  cases e1 : datsO os with
  | none => simp [e1, lstFinT] at h'
  | some ds =>
    simp only [e1, Option.bind_some] at h'
    cases e2 : szLst ds with
    | none => simp [e2, lstFinT] at h'
    | some d =>
      simp only [e2, Option.map_some, lstFinT] at h'
      obtain ⟨rfl, hz⟩ := szLst_eq e2
      have dn := datsO_dens o' e1
      refine ⟨by rw [dn.len]; exact hz, fun p hp => ?_⟩
      obtain ⟨W3, r3, st3, bk⟩ := New.back (o := .list) r' (same_upd hp) (NewO.lst hp dn)
      exact h' _ W3 _ st3 r3 bk
/-- f(e, ..) as a value -/
theorem sv_call {f : Nat} {x : Str} {ps : List Str} {e0 : Expr} {es : List Expr} {Es : Es} {p pos : Pos} (hF : FnAt X cl nf x ps (Fs f)) (hr : Room nf X.A) (hgd : X.A.guards = some []) (tk : Takes X (wx cl wE)) (hw : X.w = fc.w) (hg : Gl X x) (hd : (x == ("__debug__" : Str)) = false)
    (ha : PA X (e0 :: es) (tOs fc wE (evEs Fs Es))) (hns : (e0 :: es).all ns = true) :
    PE X (.Call (.Name x p) (e0 :: es) [] pos) (tV fc wE (evT Fs (.call f Es))) := by
  refine ⟨fun pins s σ H Q I h => ?_⟩
  obtain ⟨ρ, W, r, h⟩ := h
  rw [show evT Fs (.call f Es) = _ from by rw [evT]] at h
  obtain ⟨a, fd, hm, hk, hb, hG⟩ := hF.ex
  refine wpAny_Call_Name_kw (ld_glob I hg hm ?_ hd)
  simp only [List.all_cons, Bool.and_eq_true] at hns
  refine PySem.W.callWith_K (h₀ := X.base) I.ok.mod.kin hk (runsV ha I r h fun xs ρ1 W1 vs us H1 s1 I1 rv r1 st o1 h1 => ⟨I1.kIn, ?_⟩) (ns_star hns.1 _ _) (ns_plain hns.2)
  refine call_run hG hb hr hgd tk hw I1 r1 o1 rv ?_
  unfold ExV at h1
  exact h1
/-! slices -/
theorem cut_dens {w : World} {F : Addr → Prop} {vs : List V} {xs : List Mp.D} (h : Dens w F H vs xs) (lo hi : Option Int) : Dens w F H (cutV vs lo hi) (cutD xs lo hi) := by
  unfold cutV cutD
  rw [h.len]
  exact (h.drop _).take _
theorem cut_whole {xs : List Mp.D} {lo hi : Option Int} (h : HT.sIx xs.length 0 lo = 0 ∧ HT.sIx xs.length xs.length hi = xs.length) : cutD xs lo hi = xs := by
  unfold cutD
  rw [h.1, h.2]; simp
theorem sl_rule {o : Op} {F : Addr → Prop} {x : V} {d d' : Mp.D} {b : Bool} {lo hi : Option Int} (c : Cur fc.w F H x d b) (hb : b = true → flat d' = true)
    (hd : (∃ xs, d = .tuple xs ∧ d' = .tuple (cutD xs lo hi)) ∨ ∃ xs, d = .list xs ∧ d' = .list (cutD xs lo hi)) (k : ∀ z H', Same H H' → NewO o fc.w F H H' z d' → Q z H') : rSlA X.K x lo hi H Q ∨ rSlL X.K x lo hi H Q := by
  rcases hd with ⟨xs, rfl, rfl⟩ | ⟨xs, rfl, rfl⟩
  · obtain ⟨a, vs, rfl, e, dn⟩ := c.tup
    refine .inl ⟨a, vs, rfl, .of e, fun hw => ?_, fun hw p hp => k _ _ (same_upd hp) (.tup hp (cut_dens dn lo hi))⟩
    rw [dn.len] at hw
    rw [cut_whole hw] at k
    exact k _ _ (Same.refl H) (.den (.tup e dn))
  · obtain rfl := notown2 hb (by simp [flat])
    obtain ⟨a, vs, rfl, e, _, dn⟩ := c.list
    exact .inr ⟨a, vs, rfl, .of e, fun p hp => k _ _ (same_upd hp) (.lst hp (cut_dens (dn rfl) lo hi))⟩
theorem sv_slL {e i : Expr} {A B : E} {p2 pos : Pos} (ha : PE X e (tO fc wE (evE Fs A))) (hb : PE X i (tO fc wE (evE Fs B))) : PE X (.Subscript e (.Slice (some i) none none p2) pos) (tV fc wE (evT Fs (.op .slL (.cons A (.cons B .nil))))) := by
  refine ⟨fun pins s σ H Q I h => (pe_slice (sl_tupA.or sl_list) ha (po_some hb) po_none).run pins s σ H Q I ?_⟩
  obtain ⟨ρ, W, r, h⟩ := h
  rw [evT_op2] at h
  refine tV_bnd r h fun x ρ1 v W1 H1 st1 r1 o1 h1 => tV_bnd r1 h1 fun y ρ2 u W2 H2 st2 r2 o2 h2 => ?_
  obtain ⟨ds, b, d, e1, e2, hf, k⟩ := h2.fin r2
  have cs := (ORs.cons (o1.stp st2 r1) (.cons o2 .nil)).curs r2 e1
  change f_slL ds = some d at e2
  unfold f_slL at e2
  split at e2
  · cases e2
    obtain ⟨v1, v2, ev, c1, c2⟩ := cs.two
    cases ev
    exact ⟨_, c2.int, sl_rule c1 hf (.inl ⟨_, rfl, rfl⟩) k⟩
  · cases e2
    obtain ⟨v1, v2, ev, c1, c2⟩ := cs.two
    cases ev
    exact ⟨_, c2.int, sl_rule c1 hf (.inr ⟨_, rfl, rfl⟩) k⟩
  · cases e2
theorem sv_slH {e i : Expr} {A B : E} {p2 pos : Pos} (ha : PE X e (tO fc wE (evE Fs A))) (hb : PE X i (tO fc wE (evE Fs B))) : PE X (.Subscript e (.Slice none (some i) none p2) pos) (tV fc wE (evT Fs (.op .slH (.cons A (.cons B .nil))))) := by
  refine ⟨fun pins s σ H Q I h => (pe_slice (sl_tupA.or sl_list) ha po_none (po_some hb)).run pins s σ H Q I ?_⟩
  obtain ⟨ρ, W, r, h⟩ := h
  rw [evT_op2] at h
  refine tV_bnd r h fun x ρ1 v W1 H1 st1 r1 o1 h1 => tV_bnd r1 h1 fun y ρ2 u W2 H2 st2 r2 o2 h2 => ?_
  obtain ⟨ds, b, d, e1, e2, hf, k⟩ := h2.fin r2
  have cs := (ORs.cons (o1.stp st2 r1) (.cons o2 .nil)).curs r2 e1
  change f_slH ds = some d at e2
  unfold f_slH at e2
  split at e2
  · cases e2
    obtain ⟨v1, v2, ev, c1, c2⟩ := cs.two
    cases ev
    exact ⟨_, c2.int, sl_rule c1 hf (.inl ⟨_, rfl, rfl⟩) k⟩
  · cases e2
    obtain ⟨v1, v2, ev, c1, c2⟩ := cs.two
    cases ev
    exact ⟨_, c2.int, sl_rule c1 hf (.inr ⟨_, rfl, rfl⟩) k⟩
  · cases e2
theorem intO_eq {x y : Opd} (h : intO x = some y) : ∃ i, x = .d (.int i) ∧ y = .d (.int i) := by
  unfold intO at h
  split at h
  · cases h; exact ⟨_, rfl, rfl⟩
  · cases h
theorem sx_asI {e : Expr} {A : E} (ha : PE X e (tO fc wE (evE Fs A))) : PE X e (tO fc wE (evE Fs (.asI A))) := by
  refine ⟨fun pins s σ H Q I h => ha.run pins s σ H Q I ?_⟩
  rw [evE] at h
  obtain ⟨ρ, W, r, h⟩ := h
  refine tO_bnd r h fun o ρ1 v W1 H1 st1 r1 o1 h1 => ?_
  obtain ⟨y, e1, q⟩ := h1.get
  obtain ⟨i, rfl, rfl⟩ := intO_eq e1
  exact q v W1 H1 (Stp.refl _ _) r1 o1
theorem asI_int {A : E} {ρ ρ' : Rho} {y : Opd} (h : evE Fs (.asI A) ρ = some (.ok y ρ')) : ∃ i, y = .d (.int i) := by
  rw [evE] at h
  unfold M.bnd M.get at h
  cases e : evE Fs A ρ with
  | none => simp [e] at h
  | some z =>
    cases z with
    | exc c r => simp [e] at h
    | ok x r =>
      simp only [e] at h
      cases e1 : intO x with
      | none => simp [e1] at h
      | some y' =>
        obtain ⟨i, _, rfl⟩ := intO_eq e1
        simp only [e1, Option.some.injEq, R1.ok.injEq] at h
        exact ⟨i, h.1.symm⟩
theorem sv_slLH {e i j : Expr} {A B C : E} {p2 pos : Pos} (ha : PE X e (tO fc wE (evE Fs A))) (hb : PE X i (tO fc wE (evE Fs (.asI B)))) (hc : PE X j (tO fc wE (evE Fs C))) : PE X (.Subscript e (.Slice (some i) (some j) none p2) pos) (tV fc wE (evT Fs (.op .slLH (.cons A (.cons (.asI B) (.cons C .nil)))))) := by
  refine ⟨fun pins s σ H Q I h => (pe_slice (sl_tupA.or sl_list) ha (po_some hb) (po_some hc)).run pins s σ H Q I ?_⟩
  obtain ⟨ρ, W, r, h⟩ := h
  rw [evT_op3] at h
  refine tV_bnd r h fun x ρ1 v W1 H1 st1 r1 o1 h1 => ?_
  obtain ⟨h0, hx, hk⟩ := h1.bnd
  refine tO_of r1 h0 hx fun y ρ2 ey u W2 H2 st2 r2 o2 => ?_
  have h2 := hk y ρ2 ey W2 H2 st2 r1 r2
  obtain ⟨i', rfl⟩ := asI_int ey
  cases o2
  refine ⟨i', rfl, tV_bnd r2 h2 fun z ρ3 t W3 H3 st3 r3 o3 h3 => ?_⟩
  obtain ⟨ds, b, d, e1, e2, hf, k⟩ := h3.fin r3
  have cs := (ORs.cons ((o1.stp st2 r1).stp st3 r2) (.cons (o := .d (.int i')) (Den.int i') (.cons o3 .nil))).curs r3 e1
  change f_slLH ds = some d at e2
  unfold f_slLH at e2
  split at e2
  · cases e2
    obtain ⟨v1, v2, v3, ev, c1, c2, c3⟩ := cs.three
    cases ev
    have := c2.int
    cases this
    exact ⟨_, c3.int, sl_rule c1 hf (.inl ⟨_, rfl, rfl⟩) k⟩
  · cases e2
    obtain ⟨v1, v2, v3, ev, c1, c2, c3⟩ := cs.three
    cases ev
    have := c2.int
    cases this
    exact ⟨_, c3.int, sl_rule c1 hf (.inr ⟨_, rfl, rfl⟩) k⟩
  · cases e2
/-! list(range(n)), tuple(range(n)) -/
theorem rgV_dens {w : World} {F : Addr → Prop} (n : Int) : Dens w F H (rgV 0 n) (rngD 0 n) := by
  have : ∀ (l : List Nat) (g : Nat → V) (f : Nat → Mp.D), (∀ i, Den w F H (g i) (f i)) → Dens w F H (l.map g) (l.map f) := by
    intro l g f hh
    induction l with
    | nil => exact .nil
    | cons a l ih => exact .cons (hh a) ih
  exact this _ _ _ fun i => .int _
theorem sv_rngL {e : Expr} {A : E} {p p2 pos pos2 : Pos} (hc : X.calm = true) (hg : Gl X "list") (hm : X.mg "list" = none) (hg2 : Gl X "range") (hm2 : X.mg "range" = none) (ha : PE X e (tO fc wE (evE Fs A))) (hn : ns e = true) :
    PE X (.Call (.Name "list" p) [.Call (.Name "range" p2) [e] [] pos2] [] pos) (tV fc wE (evT Fs (.op .rngL (.cons A .nil)))) := by
  refine ⟨fun pins s σ H Q I h => (pe_listRg hc hg hm (prg_1 hg2 hm2 ha (ns_star hn _ _)) rfl).run pins s σ H Q I ?_⟩
  obtain ⟨ρ, W, r, h⟩ := h
  rw [evT_op1] at h
  refine tV_bnd r h fun x ρ1 v W1 H1 st1 r1 o1 h1 => ?_
  obtain ⟨ds, b, d, e1, e2, hf, k⟩ := h1.fin r1
  have cs := (ORs.cons o1 .nil).curs r1 e1
  change f_rngL ds = some d at e2
  unfold f_rngL at e2
  split at e2
  · next n =>
    split at e2
    · next hl =>
      cases e2
      simp only [Bool.and_eq_true, decide_eq_true_eq] at hl
      obtain ⟨v1, ev, c1⟩ := cs.one
      cases ev
      obtain ⟨h1, h2⟩ := mid_ok hl.1
      refine ⟨n, c1.int, ⟨by omega, by omega, h1, h2, by omega⟩, fun p hp => k _ _ (same_upd hp) (.lst hp (rgV_dens n))⟩
    · cases e2
  · cases e2
theorem sv_rngT {e : Expr} {A : E} {p p2 pos pos2 : Pos} (hc : X.calm = true) (hg : Gl X "tuple") (hm : X.mg "tuple" = none) (hg2 : Gl X "range") (hm2 : X.mg "range" = none) (ha : PE X e (tO fc wE (evE Fs A))) (hn : ns e = true) :
    PE X (.Call (.Name "tuple" p) [.Call (.Name "range" p2) [e] [] pos2] [] pos) (tV fc wE (evT Fs (.op .rngT (.cons A .nil)))) := by
  refine ⟨fun pins s σ H Q I h => (pe_tupRg hc hg hm (prg_1 hg2 hm2 ha (ns_star hn _ _)) rfl).run pins s σ H Q I ?_⟩
  obtain ⟨ρ, W, r, h⟩ := h
  rw [evT_op1] at h
  refine tV_bnd r h fun x ρ1 v W1 H1 st1 r1 o1 h1 => ?_
  obtain ⟨ds, b, d, e1, e2, hf, k⟩ := h1.fin r1
  have cs := (ORs.cons o1 .nil).curs r1 e1
  change f_rngT ds = some d at e2
  unfold f_rngT at e2
  split at e2
  · next n =>
    split at e2
    · next hl =>
      cases e2
      simp only [Bool.and_eq_true, decide_eq_true_eq] at hl
      obtain ⟨v1, ev, c1⟩ := cs.one
      cases ev
      obtain ⟨h1, h2⟩ := mid_ok hl.1
      refine ⟨n, c1.int, ⟨by omega, by omega, h1, h2, by omega⟩, fun p hp => k _ _ (same_upd hp) (.tup hp (rgV_dens n))⟩
    · cases e2
  · cases e2
end
end Mp
set_option Elab.async false
set_option linter.all false
set_option maxRecDepth 100000
set_option maxHeartbeats 4000000
set_option autoImplicit false
/-! Mp17: chains, is, isinstance -/
namespace Mp
open PySem PySem.Spec PyProof.Rows L2
section
variable {T : Tab} {Fs : Nat → Fn} {cl : Nat → Addr} {fc : Fc} {wE : Wish}
variable {nf : Nat} {N : List Str} {sc : Scope} {so : Str → Bool} {X : Cx} {ρ ρ' : Rho} {W W' : Wd} {σ σ' : L2.St} {H H' : Hp} {Q : VK} {pins : List (Addr × Obj)} {s : Shared} {D : Ends}
theorem opBool_eq {o : Op} {os : List Opd} {r : Rho} {k : Bool} (h : opBool o os r = some k) : ∃ ds b, resAll r os = some (ds, b) ∧ opF o ds = some (.bool k) := by
  unfold opBool at h
  split at h
  · next j e =>
    cases h
    unfold opFin at e
    cases e1 : resAll r os with
    | none => simp [e1] at e
    | some x =>
      obtain ⟨ds, b⟩ := x
      simp only [e1] at e
      cases e2 : opF o ds with
      | none => simp [e2] at e
      | some d =>
        simp only [e2] at e
        split at e
        · cases e
        · cases e; exact ⟨ds, b, rfl, e2⟩
  · cases h
/-- a link of a chain: its truth -/
theorem link_run {o : Op} {f : Value → Value → Sem Value} {x y : Opd} {v v2 : V} {u u2 : Value} {k : Bool} (hop : OpD X (act2 f) o) (hw : X.w = fc.w) (I : Inv X pins σ H s) (r : R fc ρ W σ H) (o1 : OR fc W H σ v x) (o2 : OR fc W H σ v2 y) (rv : RelV v u) (rv2 : RelV v2 u2)
    (e : opBool o [x, y] ρ = some k) : wpAny (model X.prog X.w) X.A (f u u2) (EP X pins σ fun z H' => z = .bl k ∧ Same H H') X.xe s := by
  obtain ⟨ds, b, e1, e2⟩ := opBool_eq e
  refine FinX.run (act := act2 f) (fc := fc) hop hw I r (.cons o1 (.cons o2 .nil)) (.cons rv (.cons rv2 .nil)) ⟨ds, b, _, e1, e2, fun _ => rfl, fun z H' sm n => ⟨?_, sm⟩⟩
  rcases n.1 with n | ⟨p, _, _, ⟨_, _, z, _⟩ | ⟨_, _, z, _⟩⟩
  · cases n; rfl
  · cases z
  · cases z
theorem evE_chain (o o2 : Op) (A B C : E) : evE Fs (.chain o o2 A B C) = (evE Fs A).bnd fun x => (evE Fs B).bnd fun y => .bnd (.get (opBool o [x, y])) fun k => if k then (evE Fs C).bnd fun z => .get (opFin o2 [y, z]) else .ok (.d (.bool false)) := by
  rw [evE]
theorem lastM {op op' : CmpOp} {b c : Expr} (h : nset c = true) : lastMarks [op, op'] [b, c] = false := by
  cases c <;> first | rfl | cases h
theorem sx_chain {a b c : Expr} {A B C : E} {o o2 : Op} {op op' : CmpOp} {pos : Pos} (ha : PE X a (tO fc wE (evE Fs A))) (hb : PE X b (tO fc wE (evE Fs B))) (hc : PE X c (tO fc wE (evE Fs C))) (hop : OpD X (act2 (compareOp op)) o) (hop2 : OpD X (act2 (compareOp op')) o2) (hw : X.w = fc.w) (hn : nset c = true) :
    PE X (.Compare a [op, op'] [b, c] pos) (tO fc wE (evE Fs (.chain o o2 A B C))) := by
  refine ⟨fun pins s σ H Q I h => ?_⟩
  obtain ⟨ρ, W, r, h⟩ := h
  rw [evE_chain] at h
  refine Compare_chain (run1 ha I r h fun x ρ1 W1 v u H1 s1 I1 rv r1 st o1 h1 => chain_link (run1 hb I1 r1 h1 fun y ρ2 W2 v2 u2 H2 s2 I2 rv2 r2 st2 o2' h2 => ?_)) (lastM hn)
  obtain ⟨k, e, h3⟩ := h2.getB
  refine thn (link_run hop hw I2 r2 (o1.stp st2 r1) o2' rv rv2 e) fun d s3 ⟨z, H3, I3, r3, ez, sm⟩ => ?_
  subst ez
  cases r3
  refine wpAny_truthy_bool ?_
  obtain ⟨r2', st3⟩ := r2.same sm
  cases k with
  | false =>
    refine ite_ff ⟨.bl false, H3, I3, rfl, ?_⟩
    simp only [Bool.false_eq_true, if_false] at h3
    exact h3 (.bl false) W2 H3 st3 r2' (.bl false)
  | true =>
    simp only [if_true] at h3
    have h3' : ExO fc wE ((evE Fs C).bnd fun z => .get (opFin o2 [y, z])) ρ2 W2 σ H3 Q := by
      unfold ExO at h3 ⊢
      split
      · next e => simp only [e] at h3
      · next e => simp only [e] at h3; exact fun W' H' s r => h3 W' H' (st3.trans s) r
      · next e => simp only [e] at h3; exact fun v W' H' s r o => h3 v W' H' (st3.trans s) r o
    refine ite_tt (chain_last (run1 hc I3 r2' h3' fun z ρ4 W4 v4 u4 H4 s4 I4 rv4 r4 st4 o4 h4 => ?_))
    exact op_fin (act := act2 (compareOp op')) hop2 hw I4 r4 (.cons ((o2'.stp st3 r2).stp st4 r2') (.cons o4 .nil)) (.cons rv2 (.cons rv4 .nil)) h4
theorem ExB.from {m : M Bool} {QB : Bool → Hp → Prop} (h : ExB fc wE m ρ W σ H QB) (st : Stp W H W' H') : ExB fc wE m ρ W' σ H' QB := by
  unfold ExB at h ⊢
  split
  · next e => simp only [e] at h
  · next e => simp only [e] at h; exact fun W' H' s r => h W' H' (st.trans s) r
  · next e => simp only [e] at h; exact fun W' H' s r => h W' H' (st.trans s) r
theorem ExO.ofGet {f : Rho → Option Opd} {o : Opd} (e : f ρ = some o) (k : ∀ v W' H', Stp W H W' H' → R fc ρ W' σ H' → OR fc W' H' σ v o → Q v H') : ExO fc wE (M.get f) ρ W σ H Q := by
  unfold ExO M.get
  simp only [e]
  exact k
theorem evB_chain (o o2 : Op) (A B C : E) : evB Fs (.chain o o2 A B C) = (evE Fs A).bnd fun x => (evE Fs B).bnd fun y => .bnd (.get (opBool o [x, y])) fun k => if k then (evE Fs C).bnd fun z => .bnd (.get (opFin o2 [y, z])) fun w => .get (truO w) else .ok false := by
  unfold evB
  rw [evE_chain, M.bnd_assoc]
  congr 1; funext x
  rw [M.bnd_assoc]
  congr 1; funext y
  rw [M.bnd_assoc]
  congr 1; funext k
  cases k
  · rfl
  · simp only [if_true]
    rw [M.bnd_assoc]
theorem sx_chainT {a b c : Expr} {A B C : E} {o o2 : Op} {op op' : CmpOp} {pos : Pos} (ha : PE X a (tO fc wE (evE Fs A))) (hb : PE X b (tO fc wE (evE Fs B))) (hc : PE X c (tO fc wE (evE Fs C))) (hop : OpD X (act2 (compareOp op)) o) (hop2 : OpD X (act2 (compareOp op')) o2) (hd : DictTru X) (hw : X.w = fc.w) (hn : nset c = true) :
    PT X (.Compare a [op, op'] [b, c] pos) (tB fc wE (evB Fs (.chain o o2 A B C))) := by
  refine ⟨fun pins s σ H QB I h => ?_⟩
  obtain ⟨ρ, W, r, h⟩ := h
  rw [evB_chain] at h
  refine isTrue_chain (run1B ha I r h fun x ρ1 W1 v u H1 s1 I1 rv r1 st o1 h1 => test_link (run1B hb I1 r1 h1 fun y ρ2 W2 v2 u2 H2 s2 I2 rv2 r2 st2 o2' h2 => ?_)) (lastM hn)
  obtain ⟨k, e, h3⟩ := h2.getB
  refine thn (link_run hop hw I2 r2 (o1.stp st2 r1) o2' rv rv2 e) fun d s3 ⟨z, H3, I3, r3, ez, sm⟩ => ?_
  subst ez
  cases r3
  refine wpAny_truthy_bool ?_
  obtain ⟨r2', st3⟩ := r2.same sm
  have h3 := h3.from st3
  cases k with
  | false =>
    refine ite_ff ⟨H3, I3, ?_⟩
    simp only [Bool.false_eq_true, if_false] at h3
    exact h3.ok r2'
  | true =>
    simp only [if_true] at h3
    refine ite_tt (test_last (run1B hc I3 r2' h3 fun z ρ4 W4 v4 u4 H4 s4 I4 rv4 r4 st4 o4 h4 => ?_))
    obtain ⟨w, ew, h5⟩ := h4.getB
    obtain ⟨b2, eb, q⟩ := h5.get
    refine thn (op_fin (wE := wE) (act := act2 (compareOp op')) (Q := fun v' H' => ∃ W5, Stp W4 H4 W5 H' ∧ R fc ρ4 W5 σ H' ∧ OR fc W5 H' σ v' w) hop2 hw I4 r4 (.cons ((o2'.stp st3 r2).stp st4 r2') (.cons o4 .nil)) (.cons rv2 (.cons rv4 .nil)) (ExO.ofGet ew fun v' W5 H5 s5 r5 o5 => ⟨W5, s5, r5, o5⟩)) fun d' s5 ⟨z2, H5, I5, rz, W5, st5, r5, o5⟩ => ?_
    exact tru_fin hd hw I5 rz r5 o5 eb (q W5 H5 st5 r5)
/-- x is None, x is True, x is False -/
def constIs : Nat → Const → Bool
  | 0, .none => true
  | 1, .bool true => true
  | 2, .bool false => true
  | _, _ => false
theorem const_run {c : Nat} {k : Const} {j : Nat} {p : Pos} (h : constIs c k = true) {P : Value → Shared → Prop} (I : Inv X pins σ H s) (q : ∀ s', Inv X pins σ H s' → P (constV c) s') : wpAny (model X.prog X.w) X.A (eval (.Constant k j p) X.env) P X.xe s := by
  unfold constIs at h
  split at h
  · exact thn (pe_non.run pins s σ H (fun v H' => v = .non ∧ H' = H) I ⟨rfl, rfl⟩) fun u s' ⟨v, H', I', rv, ev, eH⟩ => by subst ev eH; cases rv; exact q s' I'
  · exact thn (pe_bl.run pins s σ H (fun v H' => v = .bl true ∧ H' = H) I ⟨rfl, rfl⟩) fun u s' ⟨v, H', I', rv, ev, eH⟩ => by subst ev eH; cases rv; exact q s' I'
  · exact thn (pe_bl.run pins s σ H (fun v H' => v = .bl false ∧ H' = H) I ⟨rfl, rfl⟩) fun u s' ⟨v, H', I', rv, ev, eH⟩ => by subst ev eH; cases rv; exact q s' I'
  · cases h
theorem constIs_le {c : Nat} {k : Const} (h : constIs c k = true) : c ≤ 2 := by
  unfold constIs at h
  split at h <;> first | decide | cases h
theorem is_V {a : Expr} {A : E} {o : Op} {op : CmpOp} {c : Nat} {k : Const} {j : Nat} {p : Pos} (ha : PE X a (tO fc wE (evE Fs A))) (hk : constIs c k = true) (hop : OpD X (act1 fun u => compareOp op u (constV c)) o) (hw : X.w = fc.w) (I : Inv X pins σ H s)
    (h : tV fc wE (evT Fs (.op o (.cons A .nil))) σ H Q) :
    wpAny (model X.prog X.w) X.A (eval a X.env) (fun u s1 => wpAny (model X.prog X.w) X.A (eval (.Constant k j p) X.env) (fun u2 s2 => wpAny (model X.prog X.w) X.A (compareOp op u u2) (EP X pins σ Q) X.xe s2) X.xe s1) X.xe s := by
  obtain ⟨ρ, W, r, h⟩ := h
  rw [evT_op1] at h
  refine run1V ha I r h fun x ρ1 W1 v u H1 s1 I1 rv r1 st o1 h1 => const_run hk I1 fun s2 I2 => ?_
  exact FinX.run (act := act1 fun u => compareOp op u (constV c)) hop hw I2 r1 (.cons o1 .nil) (.cons rv .nil) (h1.fin r1)
theorem sv_is {a : Expr} {A : E} {o : Op} {op : CmpOp} {c : Nat} {k : Const} {j : Nat} {p pos : Pos} (ha : PE X a (tO fc wE (evE Fs A))) (hk : constIs c k = true) (hop : OpD X (act1 fun u => compareOp op u (constV c)) o) (hw : X.w = fc.w) :
    PE X (.Compare a [op] [.Constant k j p] pos) (tV fc wE (evT Fs (.op o (.cons A .nil)))) := ⟨fun _ _ _ _ _ I h => wpAny_Compare1 (is_V ha hk hop hw I h) rfl⟩
theorem is_O {a : Expr} {A : E} {o : Op} {op : CmpOp} {c : Nat} {k : Const} {j : Nat} {p : Pos} (ha : PE X a (tO fc wE (evE Fs A))) (hk : constIs c k = true) (hop : OpD X (act1 fun u => compareOp op u (constV c)) o) (hw : X.w = fc.w) (I : Inv X pins σ H s)
    (h : tO fc wE (evE Fs (.op o (.cons A .nil))) σ H Q) :
    wpAny (model X.prog X.w) X.A (eval a X.env) (fun u s1 => wpAny (model X.prog X.w) X.A (eval (.Constant k j p) X.env) (fun u2 s2 => wpAny (model X.prog X.w) X.A (compareOp op u u2) (EP X pins σ Q) X.xe s2) X.xe s1) X.xe s := by
  obtain ⟨ρ, W, r, h⟩ := h
  rw [evE_op1] at h
  refine run1 ha I r h fun x ρ1 W1 v u H1 s1 I1 rv r1 st o1 h1 => const_run hk I1 fun s2 I2 => ?_
  exact op_fin (act := act1 fun u => compareOp op u (constV c)) hop hw I2 r1 (.cons o1 .nil) (.cons rv .nil) h1
theorem sx_isT {a : Expr} {A : E} {o : Op} {op : CmpOp} {c : Nat} {k : Const} {j : Nat} {p pos : Pos} (ha : PE X a (tO fc wE (evE Fs A))) (hk : constIs c k = true) (hop : OpD X (act1 fun u => compareOp op u (constV c)) o) (hd : DictTru X) (hw : X.w = fc.w) :
    PT X (.Compare a [op] [.Constant k j p] pos) (tB fc wE (evB Fs (.op o (.cons A .nil)))) := by
  refine ⟨fun pins s σ H Q I h => wpAny_isTrue_Compare1 ?_ rfl⟩
  obtain ⟨ρ, W, r, h⟩ := h
  obtain ⟨h0, hx, hk'⟩ := h.bnd
  have := is_O (j := j) (p := p) (Q := fun v H1 => ∃ x ρ1 W1, R fc ρ1 W1 σ H1 ∧ OR fc W1 H1 σ v x ∧ ExB fc wE (.get (truO x)) ρ1 W1 σ H1 Q) ha hk hop hw I (tO_of r h0 hx fun x ρ1 e v W1 H1 s1 r1 o1 => ⟨x, ρ1, W1, r1, o1, hk' x ρ1 e W1 H1 s1 r1⟩)
  refine thn this fun u s1 h1 => thn h1 fun u2 s2 h2 => thn h2 fun c s3 h3 => ?_
  obtain ⟨v, H1, I1, rv, x, ρ1, W1, r1, o1, h1⟩ := h3
  obtain ⟨b, e, q⟩ := h1.get
  exact tru_fin hd hw I1 rv r1 o1 e (q W1 H1 (Stp.refl _ _) r1)
/-- isinstance(x, T) -/
theorem sv_isa {a : Expr} {A : E} {x : Str} {ty : String} {p p2 pos : Pos} (ha : PE X a (tO fc wE (evE Fs A))) (hg : Gl X "isinstance") (hm : X.mg "isinstance" = none) (hg2 : Gl X x) (hm2 : X.mg x = none) (hb : bootBuiltins x = some (.type ty)) (hx : x ≠ "__name__") (hd : (x == ("__debug__" : Str)) = false) (ht : ty ∈ ["int", "bool", "tuple", "list", "str"]) (hn : ns a = true) (hw : X.w = fc.w) :
    PE X (.Call (.Name "isinstance" p) [a, .Name x p2] [] pos) (tV fc wE (evT Fs (.op (.isa ty) (.cons A .nil)))) := by
  refine ⟨fun pins s σ H Q I h => ?_⟩
  obtain ⟨ρ, W, r, h⟩ := h
  rw [evT_op1] at h
  refine wpAny_Call_Name_kw (ld_blt I hg hm boot_isinstance (PyProof.Rows.callWith_builtin1 (args_cons (run1V ha I r h fun y ρ1 W1 v u H1 s1 I1 rv r1 st o1 h1 => args_cons (ld_blt I1 hg2 hm2 hb (args_nil ?_) hx hd) rfl) (ns_star hn _ _)) (ns_star hn _ _) rfl) (by decide) (by decide))
  exact FinX.run (act := act1 fun u => call (.builtin "isinstance") [u, .type ty]) (od_isa ht) hw I1 r1 (.cons o1 .nil) (.cons rv .nil) (h1.fin r1)
end
end Mp
set_option Elab.async false
set_option linter.all false
set_option maxRecDepth 100000
set_option maxHeartbeats 4000000
set_option autoImplicit false
/-! Mp22: comprehensions of two clauses -/
namespace Mp
open PySem PySem.Spec PyProof.Rows L2
section
variable {T : Tab} {Fs : Nat → Fn} {cl : Nat → Addr} {fc : Fc} {wE : Wish}
variable {nf : Nat} {N : List Str} {sc : Scope} {so : Str → Bool} {X : Cx} {ρ : Rho} {W : Wd} {σ : L2.St} {H : Hp} {Q : VK} {pins : List (Addr × Obj)} {s : Shared}
theorem wipe_sub {r : Rho} {own own2 : List Nat} (h : ∀ i ∈ own2, i ∈ own) : Mp.wipe (Mp.wipe r own2) own = Mp.wipe r own := by
  refine Rho.ext_at (by rw [wipe_g, wipe_g, wipe_g]) (by rw [wipe_len, wipe_len, wipe_len]) fun i => ?_
  by_cases hi : i ∈ own
  · rw [wipe_in hi, wipe_in hi]
  · rw [wipe_at hi, wipe_at hi, wipe_at (fun z => hi (h i z))]
theorem wipe_subS {σ : L2.St} {own own2 : List Nat} (h : ∀ i ∈ own2, i ∈ own) : L2.wipe (L2.wipe σ own2) own = L2.wipe σ own :=
  wipe_off (L2.wipe_length _ _) fun j hj => L2.wipe_out fun z => hj (h j z)
theorem Keep.sub {own own2 : List Nat} {a b : Rho} (h : ∀ i ∈ own2, i ∈ own) (k : Keep own2 a b) : Keep own a b := ⟨k.len, fun i d hn e => k.lck i d (fun z => hn (h i z)) e⟩
theorem elt2_ok {own own2 : List Nat} {t2 : Tg} {mi : M (List D × Option Nat)} {m : M (List D)} {ρ ρ' : Rho} {ys : List D} (h : elt2 own own2 t2 mi m ρ = some (.ok ys ρ')) :
    ∃ q r, mi ρ = some (.ok q r) ∧ q.2 = none ∧ tgIn own2 t2 = true ∧ (∀ i ∈ own2, i ∈ own) ∧ goes (turnM own2 t2 m) q.1 r = some (.ok ys ρ') := by
  unfold elt2 M.bnd at h
  cases e : mi ρ with
  | none => simp [e] at h
  | some z =>
    cases z with
    | exc c r => simp [e] at h
    | ok q r =>
      simp only [e] at h
      split at h
      · simp [M.get] at h
      · next hc =>
        simp only [Bool.or_eq_true, Bool.not_eq_true', not_or, Bool.not_eq_false] at hc
        refine ⟨q, r, rfl, ?_, hc.1.2, fun i hi => ?_, h⟩
        · cases e2 : q.2 with
          | none => rfl
          | some _ => rw [e2] at hc; simp at hc
        · have := List.all_eq_true.mp hc.2 i hi
          simpa using this
/-- what the inner turns keep -/
structure LcJ (fc : Fc) (own own2 : List Nat) (f : D → M (List D)) (xs : List D) (C : (Addr → Prop) → Hp → Prop) (σ2 : L2.St) (D0 : Addr) (W0 : Wd) (H1 : Hp) (ρ0 r' : Rho) (F0 : Addr → Prop) (H2 : Hp) (y1 yd : List D) (j : Nat) (H : Hp) (ρi : Rho) (Wi : Wd) (zs yd1 : List D) (acc : List V) : Prop where
  r : R fc (Mp.wipe ρi own2) Wi (L2.wipe σ2 own2) H
  st : Stp W0 H1 Wi H
  c : C Wi.F H
  ko : Kp F0 Wi.F H2 H
  kp : Keep own ρ0 ρi
  go : goes f (xs.drop j) ρi = some (.ok zs r')
  d : H D0 = some (.lst acc)
  ds : Dens fc.w Wi.F H acc (yd ++ yd1)
  all : y1 = yd1 ++ zs
  nA : D0 ∉ Wi.A
  nB : D0 ∉ Wi.B
  nF : ¬ Wi.F D0
theorem lc2_main {own own2 : List Nat} {t t2 : Tg} {mi mi2 : M (List D × Option Nat)} {m : M (List D)} {tt : TT} {te : TE} (hm : TurnOk fc m tt te) (lk : Lk m) (lki : Lk mi2)
    (h : ∃ ρ W, R fc ρ W σ H ∧ match compM own t mi (elt2 own own2 t2 mi2 m) ρ with
      | none => False
      | some (.exc c ρ') => ∀ W' H', Stp W H W' H' → R fc ρ' W' σ H' → wE c σ H'
      | some (.ok ys ρ') => ∀ u W' H', Stp W H W' H' → R fc ρ' W' σ H' → Back fc W H u (.own (.list ys)) W' H' → Q u H') :
    tLc2 (tI fc wE mi) (tG fc t) tYes (tI fc wNo mi2) (tG fc t2) tt te own own2 σ H Q := by
  obtain ⟨ρ, W, r, h⟩ := h
  refine ⟨ρ, W, r, ?_⟩
  unfold compM M.bnd at h
  cases e1 : mi ρ with
  | none => simp only [e1] at h
  | some z =>
    cases z with
    | exc c ρ' => simp only [e1] at h; exact h
    | ok p ρ1 =>
      simp only [e1] at h
      by_cases hc : (tgIn own t && outOwn own p.2) = true
      case neg => rw [if_neg hc] at h; exact h.elim
      rw [if_pos hc] at h
      simp only [Bool.and_eq_true] at hc
      cases e2 : goes (turnM own t (elt2 own own2 t2 mi2 m)) p.1 (lockO ρ1 p.2) with
      | none => simp only [e2] at h
      | some z =>
        cases z with
        | exc c ρ' => simp only [e2] at h
        | ok ys r' =>
          simp only [e2] at h
          by_cases hl : ys.length ≤ lim
          case neg => rw [if_neg hl] at h; exact h.elim
          rw [if_pos hl] at h
          intro W1 H1 J C st1 r1 src c0 sty D0 hD
          have rl := r1.lockO p.2
          obtain ⟨A0, r0, s0, bk⟩ := rl.aside own
          have kl : Keep own (Mp.lockO ρ1 p.2) (Mp.lockO ρ1 p.2) := Keep.refl _ _
          have nD : D0 ∉ W1.A ∧ D0 ∉ W1.B ∧ ¬ W1.F D0 := by
            refine ⟨fun z => ?_, fun z => ?_, fun z => ?_⟩
            · obtain ⟨o, e, _⟩ := r1.thereA _ z
              rw [hD] at e; cases e
            · obtain ⟨o, e, _⟩ := r1.thereB _ z
              rw [hD] at e; cases e
            · obtain ⟨o, e⟩ := r1.ft _ z
              rw [hD] at e; cases e
          have h0D : fc.H0 D0 = none := r1.h0 hD
          let Pv : Nat → Hp → Prop := fun i H => ∃ ρi Wi zs yd acc, LcI fc own (turnM own t (elt2 own own2 t2 mi2 m)) p.1 p.2 C σ D0 { W1 with A := A0 } H1 (Mp.lockO ρ1 p.2) r' ys i H ρi Wi zs yd acc
          have start : Pv 0 (upd H1 D0 (.lst [])) := by
            obtain ⟨r2, st2⟩ := r0.same (same_of_none (o := .lst []) hD)
            refine ⟨Mp.lockO ρ1 p.2, _, ys, [], [], r2, st2, stay_next sty hc.2 r2 kl c0 (st2.kp r0), kl, by simpa using e2, by rw [upd_same], .nil, rfl, fun z => nD.1 (s0 _ z), nD.2.1, nD.2.2⟩
          refine ⟨fun i n H => n = p.1.length - i ∧ i ≤ p.1.length ∧ Pv i H, ⟨_, rfl, Nat.zero_le _, start⟩, ?_⟩
          rintro i n H2 ⟨rfl, hi, ρi, Wi, zs, yd, acc, L⟩
          by_cases hlt : i < p.1.length
          · refine .inr ⟨src.go i _ _ L.c hlt, Pv (i + 1), fun H' p' => ⟨p.1.length - (i + 1), by omega, rfl, hlt, p'⟩, fun x H3 y => ?_⟩
            obtain ⟨sm, d, hd, dn⟩ := src.yld i _ _ x H3 L.c hlt y
            have go := L.go
            have hdr : p.1.drop i = d :: p.1.drop (i + 1) := by
              obtain ⟨h1, h2⟩ := List.getElem?_eq_some_iff.mp hd
              rw [← h2]; exact List.drop_eq_getElem_cons h1
            rw [hdr] at go
            obtain ⟨y1, r2, zs', g1, g2, rfl⟩ := goes_cons go
            unfold turnM at g1
            cases ea : asgT t d (Mp.wipe ρi own) with
            | none => simp [ea] at g1
            | some ρt =>
              simp only [ea] at g1
              have g1 := noExc_ok g1
              obtain ⟨q, ρq, eq, q2, ht2, hsub, gi⟩ := elt2_ok g1
              obtain ⟨r3, st3⟩ := L.r.same sm
              refine ⟨_, Wi, d, ρt, r3, dn, ea, fun σ2 W2 rt stt off => ?_⟩
              have hw2 : L2.wipe σ2 own = L2.wipe σ own := (wipe_off off.len (off.off own hc.1)).trans (wipe_idem σ own)
              refine ⟨hw2, ?_⟩
              unfold tYes
              dsimp only
              rw [if_pos rfl]
              refine ⟨ρt, W2, rt, ?_⟩
              rw [eq]
              intro W4 H4 J1 C1 st4 r4 src1 c1 sty1
              have stA : Stp { W1 with A := A0 } H1 W4 H4 := ((L.st.trans st3).trans stt).trans st4
              have kA : Kp Wi.F W4.F H2 H4 := ((st3.kp L.r).trans (stt.kp r3)).trans (st4.kp rt)
              obtain ⟨hD4, nA4, nB4, nF4⟩ := ((st3.trans stt).trans st4).nA L.d L.nA L.nB L.nF
              obtain ⟨A5, r5, s5, _⟩ := r4.aside own2
              have kt : Keep own (Mp.lockO ρ1 p.2) ρq := by
                refine L.kp.trans ?_
                have k1 : Keep own ρi ρt := ⟨by rw [asgT_len ea, wipe_len], fun j d hj e => (asgT_at (own := own) ea).2 j d (by rw [wipe_at hj]; exact e)⟩
                exact k1.trans (lki.o ρt q ρq eq)
              rw [q2] at sty1
              refine ⟨fun j k H => k = q.1.length - j ∧ j ≤ q.1.length ∧ ∃ ρj Wj zs1 yd1 acc1, LcJ fc own own2 (turnM own2 t2 m) q.1 C1 σ2 D0 { W1 with A := A0 } H1 (Mp.lockO ρ1 p.2) r2 Wi.F H2 y1 yd j H ρj Wj zs1 yd1 acc1,
                ⟨_, rfl, Nat.zero_le _, ρq, { W4 with A := A5 }, y1, [], acc, r5, ⟨stA.fm, stA.un, stA.fr, fun a ha => stA.a' a (s5 a ha), stA.b', stA.al, stA.gone⟩, c1, kA, kt, by simpa using gi, hD4, by rw [List.append_nil]; exact L.ds.kp kA, rfl, fun z => nA4 (s5 _ z), nB4, nF4⟩, ?_⟩
              rintro j k H5 ⟨rfl, hj, ρj, Wj, zs1, yd1, acc1, M⟩
              by_cases hlt1 : j < q.1.length
              · refine .inr ⟨src1.go j _ _ M.c hlt1, fun H => ∃ ρj Wj zs1 yd1 acc1, LcJ fc own own2 (turnM own2 t2 m) q.1 C1 σ2 D0 { W1 with A := A0 } H1 (Mp.lockO ρ1 p.2) r2 Wi.F H2 y1 yd (j + 1) H ρj Wj zs1 yd1 acc1, fun H' p' => ⟨q.1.length - (j + 1), by omega, rfl, hlt1, p'⟩, fun x1 H6 y2 => ?_⟩
                obtain ⟨sm1, d1, hd1, dn1⟩ := src1.yld j _ _ x1 H6 M.c hlt1 y2
                have go1 := M.go
                have hdr1 : q.1.drop j = d1 :: q.1.drop (j + 1) := by
                  obtain ⟨h1, h2⟩ := List.getElem?_eq_some_iff.mp hd1
                  rw [← h2]; exact List.drop_eq_getElem_cons h1
                rw [hdr1] at go1
                obtain ⟨y3, r6, zs3, g3, g4, ez⟩ := goes_cons go1
                have kt1 := turn_keep (lk.o (own := own2)) ht2 g3
                unfold turnM at g3
                cases ea1 : asgT t2 d1 (Mp.wipe ρj own2) with
                | none => simp [ea1] at g3
                | some ρt1 =>
                  simp only [ea1] at g3
                  have g3 := noExc_ok g3
                  obtain ⟨r7, st7⟩ := M.r.same sm1
                  refine ⟨_, Wj, d1, ρt1, r7, dn1, ea1, fun σ3 W8 r8 st8 off1 => ?_⟩
                  have hw3 : L2.wipe σ3 own2 = L2.wipe σ2 own2 := (wipe_off off1.len (off1.off own2 ht2)).trans (wipe_idem σ2 own2)
                  refine ⟨hw3, ?_⟩
                  have stB : Stp { W1 with A := A0 } H1 W8 H6 := (M.st.trans st7).trans st8
                  have kB : Kp Wj.F W8.F H5 H6 := (st7.kp M.r).trans (st8.kp r7)
                  obtain ⟨hD8, nA8, nB8, nF8⟩ := (st7.trans st8).nA M.d M.nA M.nB M.nF
                  refine hm ρt1 W8 σ3 H6 y3 r6 r8 g3 _ _ (fun v dv W9 H9 ey st9 r9 dn9 => ?_) (fun W9 H9 ey st9 r9 => ?_)
                  · subst ey
                    obtain ⟨hD9, nA9, nB9, nF9⟩ := st9.nA hD8 nA8 nB8 nF8
                    obtain ⟨A10, r10, s10, _⟩ := r9.aside own2
                    rw [hw3] at r10
                    have k9 : Kp Wj.F W9.F H5 H9 := kB.trans (st9.kp r8)
                    obtain ⟨r11, k11⟩ := r10.write (a := D0) (o' := .lst (acc1 ++ [v])) (fun z => nA9 (s10 _ z)) nB9 nF9 h0D hD9 (fun _ z => by cases z)
                    have len : acc1.length = (yd ++ yd1).length := M.ds.len
                    have hys : ys.length = yd.length + ((yd1.length + (1 + zs3.length)) + zs'.length) := by
                      rw [L.all, M.all, ez]; simp; omega
                    refine ⟨acc1, hD9, ?_, r6, _, zs3, yd1 ++ [dv], acc1 ++ [v], r11, ?_, ?_, M.ko.trans (k9.trans k11), M.kp.trans (kt1.sub hsub), g4, by rw [upd_same], ?_, by rw [M.all, ez]; simp, fun z => nA9 (s10 _ z), nB9, nF9⟩
                    · rw [← lim_eq, len, List.length_append]; omega
                    · have sA := stB.trans st9
                      exact ⟨sA.fm, fun a o e hb => by
                        rw [upd_ne (fun z => by subst z; rw [hD] at e; cases e)]; exact sA.un a o e hb, sA.fr, fun a ha => sA.a' a (s10 a ha), sA.b', sA.al, fun a e => by
                        rw [upd_ne (fun z => by subst z; exact e hD)]; exact sA.gone a e⟩
                    · exact sty1 _ _ _ _ M.c (k9.trans k11)
                    · rw [← List.append_assoc]
                      exact Dens.app (M.ds.kp (k9.trans k11)) (.cons (dn9.kp k11) .nil)
                  · subst ey
                    obtain ⟨hD9, nA9, nB9, nF9⟩ := st9.nA hD8 nA8 nB8 nF8
                    obtain ⟨A10, r10, s10, _⟩ := r9.aside own2
                    rw [hw3] at r10
                    have k9 : Kp Wj.F W9.F H5 H9 := kB.trans (st9.kp r8)
                    have sA := stB.trans st9
                    exact ⟨r6, _, zs3, yd1, acc1, r10, ⟨sA.fm, sA.un, sA.fr, fun a ha => sA.a' a (s10 a ha), sA.b', sA.al, sA.gone⟩, sty1 _ _ _ _ M.c k9, M.ko.trans k9, M.kp.trans (kt1.sub hsub), g4, hD9, M.ds.kp k9, by rw [M.all, ez]; simp, fun z => nA9 (s10 _ z), nB9, nF9⟩
              · have hj : j = q.1.length := by omega
                subst hj
                refine .inl ⟨src1.stop _ _ M.c, ?_⟩
                have go1 := M.go
                rw [List.drop_length] at go1
                unfold goes Mp.M.ok at go1
                simp only [Option.some.injEq, R1.ok.injEq] at go1
                obtain ⟨rfl, rfl⟩ := go1
                have hy1 : y1 = yd1 := by rw [M.all]; simp
                subst hy1
                obtain ⟨A12, r12, s12, _⟩ := M.r.aside own
                rw [wipe_sub hsub, wipe_subS hsub, hw2] at r12
                refine ⟨ρj, { Wj with A := A12 }, zs', yd ++ y1, acc1, r12, ⟨M.st.fm, M.st.un, M.st.fr, fun a ha => M.st.a' a (s12 a ha), M.st.b', M.st.al, M.st.gone⟩, stay_next sty hc.2 r12 M.kp L.c M.ko, M.kp, g2, M.d, M.ds, by rw [L.all]; simp, fun z => M.nA (s12 _ z), M.nB, M.nF⟩
          · have hi : i = p.1.length := by omega
            subst hi
            refine .inl ⟨src.stop _ _ L.c, ?_⟩
            have go := L.go
            rw [List.drop_length] at go
            unfold goes M.ok at go
            simp only [Option.some.injEq, R1.ok.injEq] at go
            obtain ⟨rfl, rfl⟩ := go
            have hys : ys = yd := by rw [L.all]; simp
            subst hys
            obtain ⟨A2, r7, s7⟩ := bk ρi Wi H2 L.st L.r L.kp.len
            rw [back_lockO hc.2] at r7
            have r8 := r7.unlockO ρ1 p.2
            have st8 : Stp W1 H1 { Wi with A := A2 } H2 := ⟨L.st.fm, L.st.un, fun a f => by
              rcases L.st.fr a f with f | f | f
              · exact .inl f
              · exact .inr (.inl (s0 a f))
              · exact .inr (.inr f), fun a ha => by
              rcases s7 a ha with z | z
              · rcases L.st.a' a z with z | z
                · exact .inl (s0 a z)
                · exact .inr z
              · exact .inl z, L.st.b', L.st.al, L.st.gone⟩
            refine h (.ref D0) _ H2 (st1.trans st8) r8 ⟨[D0], ⟨D0, rfl, rfl, .inl ⟨acc, ys, rfl, L.d, L.ds⟩⟩, by simp, fun a ha => ?_⟩
            obtain rfl : a = D0 := by simpa using ha
            refine ⟨?_, fun z => ?_, L.nB, L.nF⟩
            · cases eH : H a with
              | none => rfl
              | some o => exact absurd hD (st1.gone a (by rw [eH]; simp))
            · rcases s7 a z with z | z
              · exact L.nA z
              · exact nD.1 z
theorem tyes_pts {X' : Cx} : PTs X' [] tYes := pts_nil
/-- [e for t in it for t2 in it2] -/
theorem sx_lc2 {elt tg iter tg2 iter2 : Expr} {scope : Scope} {own : List (Str × Nat)} {own2 : List Nat} {pos : Pos} {A : E} {t t2 : Tg} {it it2 : I} (g : Good T Fs cl fc wE nf N sc so X) (hi : PI X tg iter (tI fc wE (evI Fs it))) (ok : BlkOk N sc scope own) (hv : ∀ i ∈ own2, i ∈ own.map (·.2))
    (hg : ∀ X', Good T Fs cl fc wNo nf N (relS scope sc) (blkSo scope) X' → PG X' tg (tG fc t)) (hi2 : ∀ X', Good T Fs cl fc wNo nf N (relS scope sc) (blkSo scope) X' → PI X' tg2 iter2 (tI fc wNo (evI Fs it2)))
    (hg2 : ∀ X', Good T Fs cl fc wNo nf N (relS scope sc) (blkSo scope) X' → PG X' tg2 (tG fc t2)) (he : ∀ X', Good T Fs cl fc wNo nf N (relS scope sc) (blkSo scope) X' → PE X' elt (tO fc wNo (evE Fs A))) (hn : nset iter = true) (hn2 : nset iter2 = true) :
    PE X (.ListComp elt [⟨tg, iter, [], 0⟩, ⟨tg2, iter2, [], 0⟩] scope pos) (tV fc wE (evT Fs (.lc2 (own.map (·.2)) A t it t2 it2 own2))) := by
  refine ⟨fun pins s σ H Q I h => (pe_lc2 g.calm g.nd hi (by rw [g.N, g.sc]; exact ok) hv (fun s H C cl fp => hg _ (g.blk s H C cl fp)) (fun _ _ _ _ _ => pts_nil) (fun s H C cl fp => hi2 _ (g.blk s H C cl fp)) (fun s H C cl fp => hg2 _ (g.blk s H C cl fp)) (fun _ _ _ _ _ => pts_nil) (fun s H C cl fp => he _ (g.blk s H C cl fp)) (fun x => nset_folded hn _ x) (fun env x => nset_folded hn2 env x)).run pins s σ H Q I ?_⟩
  obtain ⟨ρ, W, r, h⟩ := h
  rw [evT] at h
  exact lc2_main turn_elt1 (Lk.E Fs A).elt1 (Lk.I Fs it2) (evT_comp r h)
theorem evE_lc2 {own own2 : List Nat} {A : E} {t t2 : Tg} {it it2 : I} : evE Fs (.lc2 own A t it t2 it2 own2) = (evT Fs (.lc2 own A t it t2 it2 own2)).bnd fun v => .get fun _ => v.opd := by
  rw [evE, evT, M.bnd_assoc]; rfl
theorem sw_true2 {elt : Expr} {gs : List Comprehension} {scope : Scope} {pos py : Pos} {y : Str} {l : Nat} {env : Env} (hk : env.scope.kind = .function) (hy : env.scope.names.lookup y = some .local) (hl : (py.line == pos.line) = true)
    (ha : (scope.names.any fun (n, k) => n == y && (k == .local || k == .cell)) = false) : swapsWith (.ListComp elt gs scope pos) (some (.Name y py)) l env = pure true := sw_true hk hy hl ha
theorem ss_asgLc2 {i : Nat} {x : Str} {elt tg iter tg2 iter2 : Expr} {scope : Scope} {own : List (Str × Nat)} {own2 : List Nat} {pos p pos2 : Pos} {A : E} {t t2 : Tg} {it it2 : I} (g : Good T Fs cl fc wE nf N sc so X) (hi : PI X tg iter (tI fc wE (evI Fs it))) (ok : BlkOk N sc scope own) (hv : ∀ i ∈ own2, i ∈ own.map (·.2))
    (hg : ∀ X', Good T Fs cl fc wNo nf N (relS scope sc) (blkSo scope) X' → PG X' tg (tG fc t)) (hi2 : ∀ X', Good T Fs cl fc wNo nf N (relS scope sc) (blkSo scope) X' → PI X' tg2 iter2 (tI fc wNo (evI Fs it2)))
    (hg2 : ∀ X', Good T Fs cl fc wNo nf N (relS scope sc) (blkSo scope) X' → PG X' tg2 (tG fc t2)) (he : ∀ X', Good T Fs cl fc wNo nf N (relS scope sc) (blkSo scope) X' → PE X' elt (tO fc wNo (evE Fs A))) (hn : nset iter = true) (hn2 : nset iter2 = true)
    (hi3 : X.N[i]? = some x) (hx : X.env.scope.names.lookup x = some .local) (hk : X.env.scope.kind = .function) (hl : (p.line == pos.line) = true) (ha : (scope.names.any fun (n, k) => n == x && (k == .local || k == .cell)) = false) :
    PS X (.Assign [.Name x p] (.ListComp elt [⟨tg, iter, [], 0⟩, ⟨tg2, iter2, [], 0⟩] scope pos) pos2) (tS fc wE (evS Fs (.asg i (.lc2 (own.map (·.2)) A t it t2 it2 own2)))) := by
  refine ⟨fun pins s σ H D I h => (ps_setLc2 g.calm g.nd hi3 hx (sw_true hk hx hl ha) hi (by rw [g.N, g.sc]; exact ok) hv (fun s H C cl fp => hg _ (g.blk s H C cl fp)) (fun _ _ _ _ _ => pts_nil) (fun s H C cl fp => hi2 _ (g.blk s H C cl fp)) (fun s H C cl fp => hg2 _ (g.blk s H C cl fp)) (fun _ _ _ _ _ => pts_nil) (fun s H C cl fp => he _ (g.blk s H C cl fp)) (fun x => nset_folded hn _ x) (fun env x => nset_folded hn2 env x)).run pins s σ H D I ?_⟩
  obtain ⟨ρ, W, r, h⟩ := asg_core h
  rw [evT] at h
  exact lc2_main turn_elt1 (Lk.E Fs A).elt1 (Lk.I Fs it2) (evT_comp r h)
end
end Mp
set_option Elab.async false
set_option linter.all false
set_option maxRecDepth 100000
set_option maxHeartbeats 4000000
set_option autoImplicit false
/-! Mp26: dicts: length, list, walk -/
namespace Mp
open PySem PySem.Spec PyProof.Rows L2
/-- the items of a list that was made of the keys -/
theorem items_keys {es : Array DictEntry} {acc : Array Value} (h : ItemsOf (fun i v => ∃ hi : i < es.size, v = es[i].key) acc es.size) : acc.toList = es.toList.map (·.key) := by
  refine List.ext_getElem? fun i => ?_
  by_cases hi : i < es.size
  · have h1 : i < acc.size := by rw [h.1]; exact hi
    obtain ⟨_, e⟩ := h.2 i acc[i] (by simp [h1])
    rw [List.getElem?_map]
    simp [h1, hi, e]
  · rw [List.getElem?_eq_none (by rw [Array.length_toList, h.1]; omega), List.getElem?_eq_none (by simp; omega)]
/-- the keys of the dict at a, while it stands as it is -/
def Itq (a : Addr) (es : DE) : It :=
  ⟨fun i H => H a = some (dO a es) ∧ i < es.1.size, fun i H x H' => H' = H ∧ ∃ e, es.1.toList[i]? = some e ∧ RelV x e.key, fun i H => H a = some (dO a es) ∧ es.1.size ≤ i⟩
theorem turn_raw {P : Program} {w : World} {K : PySem.W.Frag} {tg : Expr} (a it : Addr) (es : DE) (hn : it ≠ a) (hv : ∀ e ∈ es.1.toList, ∃ x, RelV x e.key) : Turn P w K tg (Itq a es) [it] it (fun i h => h.IsKeyIter it a i es.1.size es.2) where
  mem := by simp
  obj := fun i h st b hb => by
    have e : b = it := by simpa using hb
    subst e
    obtain ⟨o, e, c, d⟩ := st
    exact ⟨o, e, fun v z => by rw [d] at z; cases z⟩
  keep := fun i h h' st k => st.at fun o e => k it (by simp) o e
  item := by
    intro X hP hw hK hc i pins s σ H E I hf st hg
    subst hP hw hK
    obtain ⟨hH, hi⟩ := hg
    have hr := Inv.dictRaw I hH
    obtain ⟨f0, f1, f2, f3, f4, f5⟩ := hf it (by simp)
    refine wpAny_pyNext_keys_item_raw st hr hi fun h' hit' hs' => ?_
    have I1 : Inv X pins σ H { s with heap := h' } := I.turned (t' := s.toks) (fun b o hb e => hs'.extBut b o hb e) f0 f1 f3 f4 f5
    obtain ⟨o, e, c, d⟩ := id hit'
    obtain ⟨x, hx⟩ := hv es.1[i] (by simp)
    exact ⟨_, rfl, go_of (s := { s with heap := h' }) e c d (by decide) ⟨x, H, I1, hx, ⟨rfl, es.1[i], by simp [hi], hx⟩, hit', fun b hb => (hf b hb).1⟩⟩
  done := by
    intro X hP hw hK hc i pins s σ H E I hf st hg
    subst hP hw hK
    obtain ⟨hH, hi⟩ := hg
    have hr := Inv.dictRaw I hH
    obtain ⟨f0, f1, f2, f3, f4, f5⟩ := hf it (by simp)
    exact wpAny_pyNext_keys_end_raw (I.ok.hd hc) st hr hi fun h' eb => ⟨rfl, I.turned (t' := s.toks) (fun b o hb e => eb b o hb e) f0 f1 f3 f4 f5⟩
  self := fun _ _ _ _ _ st h => wpAny_pyIter_keyiter st h
section
variable {X : Cx}
theorem dLen : DictLen X := by
  intro pins s σ H F x u kvs b Q I c r q
  obtain ⟨a, es, rfl, e, z, wf, F', de, _⟩ := c.dict
  cases r
  have hr := Inv.dictRaw I e
  have hl : es.1.size = kvs.length := by rw [← de.len, Array.length_toList]
  have := wf.len
  have h63 : (sizeLine : Nat) < 2 ^ 63 := by rw [sizeLine_eq]; decide
  refine call_len_slot (n := kvs.length) hr.typeIs PySem.F.slot_dict_len (fun Q' hq => call_len_raw z hr (by rw [hl]; exact hq)) (by omega) (by omega) ?_
  exact ⟨.int kvs.length, H, I.tok _, ⟨_, rfl⟩, q⟩
theorem dList (hc : X.calm = true) : DictList X := by
  intro pins s σ H F x u kvs b Q I c r k
  obtain ⟨a, es, ks, rfl, e, z, wf, vk, dk⟩ := c.keys
  cases r
  have hr := Inv.dictRaw I e
  have hl : es.1.size = kvs.length := by
    have h1 := vk.length
    have h2 := dk.len
    simp at h1 h2
    omega
  have hz := wf.len
  refine PySem.W.kdl_call (PySem.KdlSrc.rawDict (d := a) (es := es.1) (ep := es.2) z) (I.ok.hd hc) hr (by rw [hl]; exact hz) fun h' tk acc c' hk hD hacc => ?_
  have hp : H s.heap.objs.size = none := I.hok.fresh (Nat.le_refl _)
  have hkz : ks.length ≤ sizeLine := by rw [dk.len, List.length_map]; exact hz
  refine ⟨.ref s.heap.objs.size, _, I.laid (o := .lst ks) (t' := tk) hk (Nat.le_refl _) ⟨hkz, acc.toList, c', by rw [items_keys hacc]; exact vk, by rw [Array.toArray_toList]; exact hD⟩, rfl, k _ _ (same_upd hp) (.lst hp dk)⟩
theorem vals_each : ∀ {ks : List V} {es : List DictEntry}, Vals ks (es.map (·.key)) → ∀ e ∈ es, ∃ x, RelV x e.key
  | _, [], _, e, he => by simp at he
  | _ :: _, e0 :: es, .cons r t, e, he => by
    rcases List.mem_cons.mp he with rfl | he
    · exact ⟨_, r⟩
    · exact vals_each t e he
theorem DEnts.keyAt {w : World} {F : Addr → Prop} {H : Hp} : ∀ {es : List DictEntry} {kvs : List (D × D)} {i : Nat} {e : DictEntry}, DEnts w F H es kvs → es[i]? = some e → ∃ kv p, kvs[i]? = some p ∧ RelV kv e.key ∧ Den w F H kv p.1
  | _, _, _, _, .nil, h => by simp at h
  | _, _, 0, _, .cons a _ c _ _ _, h => by simp at h; subst h; exact ⟨_, _, rfl, a, c⟩
  | _, _, i + 1, _, .cons _ _ _ _ _ t, h => by simpa using DEnts.keyAt (i := i) t (by simpa using h)
theorem dIt (fc : Fc) : DictIt fc X := by
  intro pins s σ H F tg v u kvs R0 I c r k
  cases c with
  | @dic a es _ f e z wf de =>
    cases r
    have hr := Inv.dictRaw I e
    obtain ⟨ks, vk, dk⟩ := de.keys
    have hl : es.1.size = kvs.length := by rw [← de.len, Array.length_toList]
    refine wpAny_pyIter_dict_raw z hr ?_
    refine ⟨s.heap.objs.size, [s.heap.objs.size], _, _, H, rfl, I.kept (t' := s.toks) fun b o e => Heap.get?_push_of_some _ e, turn_raw a _ es (Nat.ne_of_gt hr.lt_size) (vals_each vk), ⟨_, Heap.get?_push_size _ rfl, rfl, rfl⟩, fun b hb => ?_, ?_⟩
    · have e : b = s.heap.objs.size := by simpa using hb
      subst e
      exact I.fpOk (Nat.le_refl _) (I.hok.fresh (Nat.le_refl _))
    · refine k _ (fun F H => F a ∧ H a = some (dO a es) ∧ DEnts fc.w F H es.1.toList kvs) ⟨fun i F H c hi => ⟨c.2.1, by simpa [hl] using hi⟩, fun F H c => ⟨c.2.1, by simp [hl]⟩, fun i F H x H' c hi y => ?_⟩ ⟨f, e, de⟩ fun F F' H H' c kp => ⟨kp.f _ c.1, kp.h _ _ c.1 c.2.1, c.2.2.kp kp⟩
      obtain ⟨rfl, en, he, rx⟩ := y
      obtain ⟨kv, p, hp, rk, dn⟩ := c.2.2.keyAt he
      rw [L2.RelV.inj rx rk]
      exact ⟨fun _ _ h => h, p.1, by simp [hp], dn⟩
variable {Fs : Nat → Fn} {fc : Fc} {wE : Wish}
/-- for .. in range(a, b) -/
theorem si_rng2 {a b tg : Expr} {A B : E} {p pos : Pos} (hg : Gl X "range") (hm : X.mg "range" = none) (ha : PE X a (tO fc wE (evE Fs A))) (hb : PE X b (tO fc wE (evE Fs B))) (hn : ns a = true) (hn2 : ns b = true) : PI X tg (.Call (.Name "range" p) [a, b] [] pos) (tI fc wE (evI Fs (.rng2 A B))) := by
  refine ⟨fun pins s σ H R0 I h => (pi_range2 hg hm (pa_cons ha (pa_cons hb pa_nil (ns_star hn2 _ _)) (ns_star hn _ _)) (by rw [ns_star hn, ns_star hn2]; rfl) (by rw [ns_star hn2]; rfl)).run pins s σ H R0 I ?_⟩
  rw [evI] at h
  obtain ⟨ρ, W, r, h⟩ := h
  unfold M.bnd at h
  refine tO_of r (fun e => by simp only [e] at h) (fun c ρ' e => by simp only [e] at h; exact h) fun x ρ1 e v W1 H1 st1 r1 o1 => ?_
  simp only [e] at h
  refine tO_of r1 (fun e => by simp only [e] at h) (fun c ρ' e => by simp only [e] at h; exact fun W' H' st r' => h W' H' (st1.trans st) r') fun y ρ2 e2 u W2 H2 st2 r2 o2 => ?_
  simp only [e2] at h
  unfold M.get at h
  cases e3 : rng2Fin x y ρ2 with
  | none => simp only [e3] at h
  | some q =>
    simp only [e3] at h
    unfold rng2Fin at e3
    split at e3
    · next i j b hres =>
      split at e3
      · next hmid =>
        cases e3
        simp only [Bool.and_eq_true] at hmid
        have cs := (ORs.cons (o1.stp st2 r1) (.cons o2 .nil)).curs r2 hres
        obtain ⟨v1, v2, ev, c1, c2⟩ := cs.two
        cases ev
        have := c1.int
        have := c2.int
        subst_vars
        obtain ⟨h1, h2⟩ := mid_ok hmid.1
        obtain ⟨h3, h4⟩ := mid_ok hmid.2
        exact ⟨i, j, rfl, ⟨h1, h2, h3, h4⟩, h W2 H2 _ _ (st1.trans st2) r2 src_rng trivial (fun _ _ _ _ _ _ => trivial)⟩
      · cases e3
    · cases e3
end
end Mp
set_option Elab.async false
set_option linter.all false
set_option maxRecDepth 100000
set_option maxHeartbeats 4000000
set_option autoImplicit false
/-! Mp27: methods of lists that give a value; zip -/
namespace Mp
open PySem PySem.Spec PyProof.Rows L2 RZ
def methNm : Op → Option Str
  | .index => some "index"
  | .count => some "count"
  | _ => none
section
variable {T : Tab} {Fs : Nat → Fn} {cl : Nat → Addr} {fc : Fc} {wE : Wish}
variable {X : Cx} {ρ ρ' : Rho} {W W' : Wd} {σ σ' : L2.St} {H H' : Hp} {Q : VK} {pins : List (Addr × Obj)} {s : Shared}
theorem seqKind_ok {x : Opd} {v : V} {r : Rho} (e : seqKind x ρ = some ()) (q : OR fc W H σ v x) (rr : R fc ρ W σ H) : ∃ a vs, v = .ref a ∧ H a = some (.lst vs) := by
  unfold seqKind at e
  cases e1 : x.res ρ with
  | none => rw [e1] at e; cases e
  | some p =>
    obtain ⟨d, b⟩ := p
    rw [e1] at e
    cases d <;> first | (cases e; done) | skip
    obtain ⟨a, vs, h1, h2, _⟩ := (q.cur rr e1).list
    exact ⟨a, vs, h1, h2⟩
/-- a.index(b), a.count(b), a a list -/
theorem sx_meth {a b : Expr} {A B : E} {o : Op} {m : Str} {apos cpos : Pos} (hu : X.A.units + 64 < cLine) (hw : X.w = fc.w) (ha : PE X a (tO fc wE (evE Fs A))) (hb : PE X b (tO fc wE (evE Fs B))) (hm : methNm o = some m) (hn : ns b = true) (hn0 : nc0 a = true) (hl : (apos.endLine == cpos.line) = true) :
    PE X (.Call (.Attribute a m apos) [b] [] cpos) (tO fc wE (evE Fs (.meth o A B))) := by
  refine ⟨fun pins s σ H Q I h => ?_⟩
  obtain ⟨ρ, W, r, h⟩ := h
  rw [show evE Fs (.meth o A B) = _ from by rw [evE]] at h
  refine PySem.wpAny_Call_method_late (nc0_attr hn0 _ _) (by rw [ns_star hn]; rfl) hl rfl ?_
  refine run1 ha I r h fun x ρ1 W1 v u H1 s1 I1 rv r1 st o1 h1 => ?_
  obtain ⟨k, ek, h1⟩ := h1.getB
  obtain ⟨p, vs, rfl, hp⟩ := seqKind_ok (r := ρ1) ek o1 r1
  cases rv
  obtain ⟨hz, its, n, rl, ho⟩ := I1.hok p _ hp
  have key : ∀ {id : String}, (∀ {u2 : Value} {v2 : V} {y : Opd} {ρ2 : Rho} {W2 : Wd} {H2 : Hp} {s2 : Shared}, Inv X pins σ H2 s2 → RelV v2 u2 → R fc ρ2 W2 σ H2 → OR fc W2 H2 σ (.ref p) x → OR fc W2 H2 σ v2 y → ExO fc wE (.get (methFin o x y)) ρ2 W2 σ H2 Q → wpAny (model X.prog X.w) X.A (call (.builtin id) [.ref p, u2]) (EP X pins σ Q) X.xe s2) →
      wpAny (model X.prog X.w) X.A (callWith cpos (.builtin id) [.ref p] (backTo cpos (starEach [b] X.env)) (backToKw cpos (keywordEach [] X.env))) (EP X pins σ Q) X.xe s1 := fun {id} hcall => by
    rw [ns_star hn]
    refine Calls.callWith_builtin rfl (Calls.evalArgs_plain ?_)
    have hA := (pa_cons hb pa_nil (ns_star hn _ _)).run cpos pins s1 σ H1 (fun vs H2 => ∃ v2 y ρ2 W2, vs = [v2] ∧ R fc ρ2 W2 σ H2 ∧ OR fc W2 H2 σ (.ref p) x ∧ OR fc W2 H2 σ v2 y ∧ ExO fc wE (.get (methFin o x y)) ρ2 W2 σ H2 Q) I1 (tO_bnd r1 h1 fun y ρ2 v2 W2 H2 st2 r2 o2 h2 => ⟨v2, y, ρ2, W2, rfl, r2, o1.stp st2 r1, o2, h2⟩)
    rw [ns_star hn] at hA
    refine thn hA fun us s2 ⟨vs, H2, I2, rv2, v2, y, ρ2, W2, e, r2, o1', o2, h2⟩ => ?_
    subst e
    obtain ⟨u2, rfl, ru⟩ := rv2.one
    exact hcall I2 ru r2 o1' o2 h2
  have hT : s1.TypeIs (.ref p) "list" := ⟨_, ho, rfl⟩
  have hd : ∀ a, Value.ref p = .ref a → ∃ ob, s1.heap.get? a = some ob ∧ ob.dict = none := fun a e => by cases e; exact ⟨_, ho, rfl⟩
  cases o <;> simp only [methNm, Option.some.injEq, reduceCtorEq] at hm <;> subst hm
  · refine ⟨"list", "list.index", PySem.F.plainAttrs_list, PySem.F.slot_list_index, PySem.F.type_list_index, hT, hd, key fun {u2 v2 y ρ2 W2 H2 s2} I2 ru r2 o1' o2 h2 => ?_⟩
    obtain ⟨z, e, q⟩ := h2.get
    unfold methFin at e
    split at e
    · next hk =>
      unfold opFin at e
      cases e1 : resAll ρ2 [x, y] with
      | none => simp [e1] at e
      | some w =>
        obtain ⟨ds, bb⟩ := w
        simp only [e1] at e
        cases e2 : opF .index ds with
        | none => simp [e2] at e
        | some d =>
          simp only [e2] at e
          split at e
          · cases e
          · cases e
            have cs := (ORs.cons o1' (.cons o2 .nil)).curs r2 e1
            change f_index ds = some d at e2
            have hds : ∃ xs d2, ds = [.list xs, d2] := by
              unfold seqKind at hk
              cases e3 : x.res ρ2 with
              | none => rw [e3] at hk; cases hk
              | some p3 =>
                obtain ⟨d3, b3⟩ := p3
                rw [e3] at hk
                cases d3 <;> first | (cases hk; done) | skip
                unfold resAll at e1
                rw [e3] at e1
                cases e4 : resAll ρ2 [y] with
                | none => simp [e4] at e1
                | some q4 =>
                  obtain ⟨ds4, b4⟩ := q4
                  unfold resAll at e4
                  cases e5 : y.res ρ2 with
                  | none => simp [e5] at e4
                  | some q5 =>
                    simp only [e5, resAll, Option.some.injEq, Prod.mk.injEq] at e4
                    obtain ⟨rfl, _⟩ := e4
                    simp only [resAll, e5, Option.some.injEq, Prod.mk.injEq] at e1
                    obtain ⟨rfl, _⟩ := e1
                    exact ⟨_, _, rfl⟩
            obtain ⟨xs, d2, rfl⟩ := hds
            unfold f_index at e2
            dsimp only at e2
            split at e2
            · next hj =>
              simp only [Bool.and_eq_true, decide_eq_true_eq] at hj
              obtain ⟨n2, hn2, rfl⟩ := Option.map_eq_some_iff.mp e2
              obtain ⟨v1, v3, ev, c1, c2⟩ := cs.two
              cases ev
              rw [← hw] at c1 c2
              exact od_index_list hu I2 c1 c2 rfl ru hj.1.1 hj.1.2 hj.2 hn2 (q _ _ _ (Stp.refl _ _) r2 (.int _))
            · cases e2
    · cases e
  · refine ⟨"list", "list.count", PySem.F.plainAttrs_list, PySem.F.slot_list_count, PySem.F.type_list_count, hT, hd, key fun {u2 v2 y ρ2 W2 H2 s2} I2 ru r2 o1' o2 h2 => ?_⟩
    obtain ⟨z, e, q⟩ := h2.get
    unfold methFin at e
    split at e
    · have h3 : ExO fc wE (.get (opFin .count [x, y])) ρ2 W2 σ H2 Q := by
        unfold ExO M.get
        rw [e]
        exact q
      exact op_fin (act := act2 fun u v => call (.builtin "list.count") [u, v]) (od_count hu) hw I2 r2 (.cons o1' (.cons o2 .nil)) (.cons rfl (.cons ru .nil)) h3
    · cases e
/-! zip -/
theorem zipD_get {xs ys : List Mp.D} {i : Nat} {x y : Mp.D} (h1 : xs[i]? = some x) (h2 : ys[i]? = some y) : (zipD xs ys)[i]? = some (.tuple [x, y]) := by
  unfold zipD
  rw [List.getElem?_map, (List.getElem?_zip_eq_some (z := (x, y))).mpr ⟨h1, h2⟩]
  rfl
theorem zipD_len {xs ys : List Mp.D} : (zipD xs ys).length = min xs.length ys.length := by
  unfold zipD; rw [List.length_map, List.length_zip]
theorem src_zipT {K : PySem.W.Frag} {a b : Addr} {xs ys : List Mp.D} : Src fc.w (ItzT K a b) (fun F H => Den fc.w F H (.ref a) (.tuple xs) ∧ Den fc.w F H (.ref b) (.tuple ys)) (zipD xs ys) := by
  refine ⟨fun i F H c hi => ?_, fun F H c => ?_, fun i F H x H' c hi y => ?_⟩
  all_goals obtain ⟨c1, c2⟩ := c
  all_goals cases c1 with | tup e1 r1 => ?_
  all_goals cases c2 with | tup e2 r2 => ?_
  all_goals have l1 := r1.len
  all_goals have l2 := r2.len
  · rw [zipD_len] at hi
    exact ⟨_, _, _, _, .of e1, .of e2, List.getElem?_eq_getElem (by omega), List.getElem?_eq_getElem (by omega)⟩
  · rw [zipD_len]
    exact ⟨_, _, .of e1, .of e2, by omega⟩
  · rw [zipD_len] at hi
    obtain ⟨t, x', y', rfl, ht, rfl, f1, f2⟩ := y
    have g1 := f1 _ (.of e1)
    have g2 := f2 _ (.of e2)
    obtain ⟨d1, h1, n1⟩ := r1.getV g1
    obtain ⟨d2, h2, n2⟩ := r2.getV g2
    have sm : Same H (upd H t (.tup [x', y'])) := same_upd ht
    exact ⟨sm, _, zipD_get h1 h2, .tup upd_same (.cons (n1.kp (Kp.same sm)) (.cons (n2.kp (Kp.same sm)) .nil))⟩
theorem src_zipL {K : PySem.W.Frag} {a b : Addr} {xs ys : List Mp.D} : Src fc.w (Itz K a b) (fun F H => Den fc.w F H (.ref a) (.list xs) ∧ Den fc.w F H (.ref b) (.list ys)) (zipD xs ys) := by
  refine ⟨fun i F H c hi => ?_, fun F H c => ?_, fun i F H x H' c hi y => ?_⟩
  all_goals obtain ⟨c1, c2⟩ := c
  all_goals cases c1 with | lst k1 e1 r1 => ?_
  all_goals cases c2 with | lst k2 e2 r2 => ?_
  all_goals have l1 := r1.len
  all_goals have l2 := r2.len
  · rw [zipD_len] at hi
    exact ⟨_, _, _, _, .of e1, .of e2, List.getElem?_eq_getElem (by omega), List.getElem?_eq_getElem (by omega)⟩
  · rw [zipD_len]
    exact ⟨_, _, .of e1, .of e2, by omega⟩
  · rw [zipD_len] at hi
    obtain ⟨t, x', y', rfl, ht, rfl, f1, f2⟩ := y
    have g1 := f1 _ (.of e1)
    have g2 := f2 _ (.of e2)
    obtain ⟨d1, h1, n1⟩ := r1.getV g1
    obtain ⟨d2, h2, n2⟩ := r2.getV g2
    have sm : Same H (upd H t (.tup [x', y'])) := same_upd ht
    exact ⟨sm, _, zipD_get h1 h2, .tup upd_same (.cons (n1.kp (Kp.same sm)) (.cons (n2.kp (Kp.same sm)) .nil))⟩
theorem datO_of {x : Opd} {d : Mp.D} (h : datO x = some d) : x = .d d := by
  cases x <;> simp [datO] at h
  rw [h]
theorem si_zip2 {a b : Expr} {A B : E} {elts : List Expr} {kk : Nat} {tpos p pos : Pos} (hg : Gl X "zip") (hm : X.mg "zip" = none) (ha : PE X a (tO fc wE (evE Fs A))) (hb : PE X b (tO fc wE (evE Fs B))) (hn : ns a = true) (hn2 : ns b = true) : PI X (.Tuple elts kk tpos) (.Call (.Name "zip" p) [a, b] [] pos) (tI fc wE (evI Fs (.zip2 A B))) := by
  refine ⟨fun pins s σ H R0 I h => (pi_zipA hg hm (pa_cons ha (pa_cons hb pa_nil (ns_star hn2 _ _)) (ns_star hn _ _)) (by rw [ns_star hn]) (by rw [ns_star hn2]; rfl)).run pins s σ H R0 I ?_⟩
  rw [evI] at h
  obtain ⟨ρ, W, r, h⟩ := h
  unfold M.bnd at h
  refine tO_of r (fun e => by simp only [e] at h) (fun c ρ' e => by simp only [e] at h; exact h) fun x ρ1 e v W1 H1 st1 r1 o1 => ?_
  simp only [e] at h
  refine tO_of r1 (fun e => by simp only [e] at h) (fun c ρ' e => by simp only [e] at h; exact fun W' H' st r' => h W' H' (st1.trans st) r') fun y ρ2 e2 u W2 H2 st2 r2 o2 => ?_
  simp only [e2] at h
  unfold M.get at h
  cases e3 : zip2Fin x y ρ2 with
  | none => simp only [e3] at h
  | some q =>
    simp only [e3] at h
    unfold zip2Fin at e3
    obtain ⟨d1, hd1, e3⟩ := Option.bind_eq_some_iff.mp e3
    obtain ⟨d2, hd2, e3⟩ := Option.bind_eq_some_iff.mp e3
    obtain ⟨zs, hz, rfl⟩ := Option.map_eq_some_iff.mp e3
    have := datO_of hd1
    have := datO_of hd2
    subst_vars
    have n1 : Den fc.w W2.F H2 v d1 := o1.stp st2 r1
    have n2 : Den fc.w W2.F H2 u d2 := o2
    unfold zip2D at hz
    split at hz
    · cases hz
      cases n1 with
      | @tup a1 vs1 _ e1 q1 =>
        cases n2 with
        | @tup a2 vs2 _ e2 q2 =>
          refine ⟨_, _, vs1, vs2, rfl, .inr ⟨.of e1, .of e2, h W2 H2 _ _ (st1.trans st2) r2 src_zipT ⟨.tup e1 q1, .tup e2 q2⟩ fun F F' H H' c k => ⟨Den.kp k c.1, Den.kp k c.2⟩⟩⟩
    · cases hz
      cases n1 with
      | @lst a1 vs1 _ f1 e1 q1 =>
        cases n2 with
        | @lst a2 vs2 _ f2 e2 q2 =>
          refine ⟨_, _, vs1, vs2, rfl, .inl ⟨.of e1, .of e2, h W2 H2 _ _ (st1.trans st2) r2 src_zipL ⟨.lst f1 e1 q1, .lst f2 e2 q2⟩ fun F F' H H' c k => ⟨Den.kp k c.1, Den.kp k c.2⟩⟩⟩
    · cases hz
end
end Mp
set_option Elab.async false
set_option linter.all false
set_option maxRecDepth 100000
set_option maxHeartbeats 4000000
set_option autoImplicit false
/-! Mp18: the check of expressions -/
namespace Mp
open PySem PySem.Spec PyProof.Rows L2
theorem dTru (X : Cx) : DictTru X := trivial
theorem dIn (X : Cx) : DictIn X := by
  intro pins s σ H F x y u v d1 kvs b q Q I c1 c2 r1 r2 e
  simp [inD] at e

def glC (sc : Scope) (x : Str) : Bool := decide (sc.names.lookup x = some .globalImplicit)
def visC (sc : Scope) (x : Str) : Bool := match sc.names.lookup x with
  | some .local | some .cell | some .free => true
  | _ => false
def dbg (x : Str) : Bool := !(x == ("__debug__" : Str)) && !(x == ("__classdict__" : Str)) && !(x == ("__name__" : Str))
def nameC (N : List Str) (sc : Scope) (i : Nat) : Expr → Bool
  | .Name x _ => decide (N[i]? = some x) && visC sc x && dbg x
  | _ => false
def binO : Op → Option Operator
  | .add => some .Add
  | .sub => some .Sub
  | .mul => some .Mult
  | .mod => some .Mod
  | .fdiv => some .FloorDiv
  | .pow => some .Pow
  | _ => none
def cmpO : Op → Option CmpOp
  | .eq => some .Eq
  | .ne => some .NotEq
  | .lt => some .Lt
  | .le => some .LtE
  | .gt => some .Gt
  | .ge => some .GtE
  | .isin => some .In
  | .nin => some .NotIn
  | _ => none
/-- the built-ins of plain arguments -/
def bltO : Op → Option Str
  | .len => some "len"
  | .int => some "int"
  | .abs => some "abs"
  | .tuple => some "tuple"
  | .list => some "list"
  | .srt => some "sorted"
  | .repr => some "repr"
  | .min2 => some "min"
  | .max2 => some "max"
  | _ => none
def isaT : String → Option Str
  | "int" => some "int"
  | "bool" => some "bool"
  | "tuple" => some "tuple"
  | "list" => some "list"
  | "str" => some "str"
  | _ => none
def bC (T : Tab) (sc : Scope) (x y : Str) : Bool := decide (x = y) && T.blt.contains x && glC sc x
def binSubs (op : Operator) : Expr → Option (List Expr)
  | .BinOp a op' b _ => if op = op' then some [a, b] else none
  | _ => none
def cmpSubs (op : CmpOp) : Expr → Option (List Expr)
  | .Compare a [op'] [b] _ => if op = op' ∧ nset b = true then some [a, b] else none
  | _ => none
def isSubs (op : CmpOp) (c : Nat) : Expr → Option (List Expr)
  | .Compare a [op'] [.Constant k _ _] _ => if op = op' ∧ constIs c k = true then some [a] else none
  | _ => none
def unSubs : Expr → Option (List Expr)
  | .UnaryOp op a _ => if op = .USub then some [a] else none
  | _ => none
def idxSubs : Expr → Option (List Expr)
  | .Subscript a b _ => if ns b = true then some [a, b] else none
  | _ => none
def slLSubs : Expr → Option (List Expr)
  | .Subscript a (.Slice (some i) none none _) _ => some [a, i]
  | _ => none
def slHSubs : Expr → Option (List Expr)
  | .Subscript a (.Slice none (some i) none _) _ => some [a, i]
  | _ => none
def slLHSubs : Expr → Option (List Expr)
  | .Subscript a (.Slice (some i) (some j) none _) _ => some [a, i, j]
  | _ => none
def rngSubs (T : Tab) (sc : Scope) (z : Str) : Expr → Option (List Expr)
  | .Call (.Name x _) [.Call (.Name y _) [a] [] _] [] _ => if (bC T sc x z && bC T sc y "range") = true then some [a] else none
  | _ => none
def isaSubs (T : Tab) (sc : Scope) (t : String) : Expr → Option (List Expr)
  | .Call (.Name x _) [a, .Name y _] [] _ => if (bC T sc x "isinstance" && decide (isaT t = some y) && T.blt.contains y && glC sc y) = true then some [a] else none
  | _ => none
def bltSubs (T : Tab) (sc : Scope) (z : Str) : Expr → Option (List Expr)
  | .Call (.Name x _) (a :: l) [] _ => if bC T sc x z = true then some (a :: l) else none
  | _ => none
/-- an operation's operands as the text has them -/
def opSubs (T : Tab) (sc : Scope) (o : Op) (e : Expr) : Option (List Expr) := match o with
  | .isC c => isSubs .Is c e
  | .isnC c => isSubs .IsNot c e
  | .neg => unSubs e
  | .idx => idxSubs e
  | .slL => slLSubs e
  | .slH => slHSubs e
  | .slLH => slLHSubs e
  | .rngL => rngSubs T sc "list" e
  | .rngT => rngSubs T sc "tuple" e
  | .isa t => isaSubs T sc t e
  | o => match binO o with
    | some op => binSubs op e
    | none => match cmpO o with
      | some op => cmpSubs op e
      | none => match bltO o with
        | some z => bltSubs T sc z e
        | none => none
def slOk : Op → Es → Bool
  | .slLH, .cons _ (.cons (.asI _) _) => true
  | .slLH, _ => false
  | _, _ => true
section
variable {T : Tab} {Fs : Nat → Fn} {cl : Nat → Addr} {fc : Fc} {wE : Wish}
variable {nf : Nat} {N : List Str} {sc : Scope} {so : Str → Bool} {X : Cx}
/-- operands, one by one -/
inductive PEs (Fs : Nat → Fn) (fc : Fc) (wE : Wish) (X : Cx) : List Expr → Es → Prop
  | nil : PEs Fs fc wE X [] .nil
  | cons {e : Expr} {l : List Expr} {A : E} {As : Es} : PE X e (tO fc wE (evE Fs A)) → ns e = true → PEs Fs fc wE X l As → PEs Fs fc wE X (e :: l) (.cons A As)
theorem PEs.pa {l : List Expr} {As : Es} (h : PEs Fs fc wE X l As) : PA X l (tOs fc wE (evEs Fs As)) := by
  induction h with
  | nil => exact sx_nil
  | cons a n _ ih => exact sx_cons a ih n
theorem PEs.ns {l : List Expr} {As : Es} (h : PEs Fs fc wE X l As) : l.all ns = true := by
  induction h with
  | nil => rfl
  | cons a n _ ih => simp only [List.all_cons, n, ih, Bool.and_self]
theorem Good.gl (g : Good T Fs cl fc wE nf N sc so X) {x : Str} (h : glC sc x = true) : Gl X x := by
  have := of_decide_eq_true h
  show X.env.scope.names.lookup x = _
  rw [g.sc]; exact this
theorem Good.bC (g : Good T Fs cl fc wE nf N sc so X) {x z : Str} (h : bC T sc x z = true) : x = z ∧ X.mg z = none ∧ Gl X z := by
  unfold Mp.bC at h
  simp only [Bool.and_eq_true, decide_eq_true_eq] at h
  obtain ⟨⟨rfl, h2⟩, h3⟩ := h
  exact ⟨rfl, g.blt x (by simpa using h2), g.gl h3⟩
theorem binSubs_eq {op : Operator} {e : Expr} {l : List Expr} (h : binSubs op e = some l) : ∃ a b p, e = .BinOp a op b p ∧ l = [a, b] := by
  unfold binSubs at h
  split at h
  · split at h
    · next z => cases h; exact ⟨_, _, _, by rw [z], rfl⟩
    · cases h
  · cases h
theorem cmpSubs_eq {op : CmpOp} {e : Expr} {l : List Expr} (h : cmpSubs op e = some l) : ∃ a b p, e = .Compare a [op] [b] p ∧ l = [a, b] ∧ nset b = true := by
  unfold cmpSubs at h
  split at h
  · split at h
    · next z => cases h; exact ⟨_, _, _, by rw [z.1], rfl, z.2⟩
    · cases h
  · cases h
theorem isSubs_eq {op : CmpOp} {c : Nat} {e : Expr} {l : List Expr} (h : isSubs op c e = some l) : ∃ a k j p p2, e = .Compare a [op] [.Constant k j p2] p ∧ l = [a] ∧ constIs c k = true := by
  unfold isSubs at h
  split at h
  · split at h
    · next z => cases h; exact ⟨_, _, _, _, _, by rw [z.1], rfl, z.2⟩
    · cases h
  · cases h
theorem bltSubs_eq {z : Str} {e : Expr} {l : List Expr} (h : bltSubs T sc z e = some l) : ∃ x p a l' p2, e = .Call (.Name x p) (a :: l') [] p2 ∧ l = a :: l' ∧ bC T sc x z = true := by
  unfold bltSubs at h
  split at h
  · split at h
    · next z => cases h; exact ⟨_, _, _, _, _, rfl, rfl, z⟩
    · cases h
  · cases h
theorem bin_od {o : Op} {op : Operator} (h : binO o = some op) : OpD X (act2 (binaryOp op)) o := by
  cases o <;> simp only [binO, Option.some.injEq, reduceCtorEq] at h <;> subst h
  · exact od_add
  · exact od_sub
  · exact od_mul
  · exact od_mod
  · exact od_fdiv
  · exact od_pow
theorem cmp_od (hu : X.A.units + 64 < cLine) {o : Op} {op : CmpOp} (h : cmpO o = some op) : OpD X (act2 (compareOp op)) o := by
  cases o <;> simp only [cmpO, Option.some.injEq, reduceCtorEq] at h <;> subst h
  · exact od_eq hu
  · exact od_ne hu
  · exact od_lt hu
  · exact od_le
  · exact od_gt
  · exact od_ge
  · exact od_in hu (dIn X)
  · exact od_nin hu (dIn X)
theorem OpD.one {f : Value} {o : Op} (n : ∀ ds d, opF o ds = some d → ∃ d1, ds = [d1]) (h : OpD X (act1 fun u => call f [u]) o) : OpD X (fun us => call f us) o := by
  intro pins s σ H w F vs us ds b d Q hw I c rv hb e k
  obtain ⟨d1, rfl⟩ := n ds d e
  obtain ⟨v1, rfl, c1⟩ := c.one
  obtain ⟨u1, rfl, r1⟩ := vals1 rv
  exact h pins s σ H w F [v1] [u1] [d1] b d Q hw I c rv hb e k
theorem OpD.two {f : Value} {o : Op} (n : ∀ ds d, opF o ds = some d → ∃ d1 d2, ds = [d1, d2]) (h : OpD X (act2 fun u v => call f [u, v]) o) : OpD X (fun us => call f us) o := by
  intro pins s σ H w F vs us ds b d Q hw I c rv hb e k
  obtain ⟨d1, d2, rfl⟩ := n ds d e
  obtain ⟨v1, v2, rfl, c1, c2⟩ := c.two
  obtain ⟨u1, u2, rfl, r1, r2⟩ := vals2 rv
  exact h pins s σ H w F [v1, v2] [u1, u2] [d1, d2] b d Q hw I c rv hb e k
/-- a built-in of the table -/
def BltAt (X : Cx) (o : Op) (z : Str) : Prop := ∃ f, bootBuiltins z = some f ∧ ((∃ id, f = .builtin id) ∨ ∃ t, f = .type t) ∧ OpD X (fun us => call f us) o ∧ z ≠ "__name__" ∧ (z == ("__debug__" : Str)) = false
theorem blt_od (hu : X.A.units + 64 < cLine) (hc : X.calm = true) (hgd : X.A.guards = some []) {o : Op} {z : Str} (h : bltO o = some z) : BltAt X o z := by
  cases o <;> simp only [bltO, Option.some.injEq, reduceCtorEq] at h <;> subst h
  · exact ⟨_, boot_len, .inl ⟨_, rfl⟩, .one (fun ds d e => by change f_len ds = some d at e; unfold f_len at e; split at e <;> first | exact ⟨_, rfl⟩ | cases e) (od_len dLen), by decide, by decide⟩
  · exact ⟨_, (by decide +kernel : bootBuiltins "int" = some (.type "int")), .inr ⟨_, rfl⟩, .one (fun ds d e => by change f_int ds = some d at e; unfold f_int at e; split at e <;> first | exact ⟨_, rfl⟩ | cases e) od_int, by decide, by decide⟩
  · exact ⟨_, (by decide +kernel : bootBuiltins "abs" = some (.builtin "abs")), .inl ⟨_, rfl⟩, .one (fun ds d e => by change f_abs ds = some d at e; unfold f_abs at e; split at e <;> first | exact ⟨_, rfl⟩ | cases e) od_abs, by decide, by decide⟩
  · exact ⟨_, (by decide +kernel : bootBuiltins "min" = some (.builtin "min")), .inl ⟨_, rfl⟩, .two (fun ds d e => by change f_min2 ds = some d at e; unfold f_min2 at e; split at e <;> first | exact ⟨_, _, rfl⟩ | cases e) (od_min2 hc), by decide, by decide⟩
  · exact ⟨_, (by decide +kernel : bootBuiltins "max" = some (.builtin "max")), .inl ⟨_, rfl⟩, .two (fun ds d e => by change f_max2 ds = some d at e; unfold f_max2 at e; split at e <;> first | exact ⟨_, _, rfl⟩ | cases e) (od_max2 hc), by decide, by decide⟩
  · exact ⟨_, boot_tuple, .inr ⟨_, rfl⟩, .one (fun ds d e => by change f_tuple ds = some d at e; unfold f_tuple at e; split at e <;> first | exact ⟨_, rfl⟩ | cases e) od_tuple, by decide, by decide⟩
  · exact ⟨_, boot_list, .inr ⟨_, rfl⟩, .one (fun ds d e => by change f_list ds = some d at e; unfold f_list at e; split at e <;> first | exact ⟨_, rfl⟩ | cases e) (od_list (dList hc)), by decide, by decide⟩
  · exact ⟨_, (by decide +kernel : bootBuiltins "sorted" = some (.builtin "sorted")), .inl ⟨_, rfl⟩, .one (fun ds d e => by change f_srt ds = some d at e; unfold f_srt at e; split at e <;> first | exact ⟨_, rfl⟩ | cases e) (od_srt hu), by decide, by decide⟩
  · exact ⟨_, (by decide +kernel : bootBuiltins "repr" = some (.builtin "repr")), .inl ⟨_, rfl⟩, .one (fun ds d e => by change f_repr ds = some d at e; unfold f_repr at e; split at e <;> first | exact ⟨_, rfl⟩ | cases e) (od_repr hu hgd), by decide, by decide⟩
theorem isaT_eq {t : String} {y : Str} (h : isaT t = some y) : t ∈ ["int", "bool", "tuple", "list", "str"] ∧ bootBuiltins y = some (.type t) ∧ y ≠ "__name__" ∧ (y == ("__debug__" : Str)) = false := by
  unfold isaT at h
  split at h <;> cases h
  · exact ⟨by simp, by decide +kernel, by decide, by decide⟩
  · exact ⟨by simp, by decide +kernel, by decide, by decide⟩
  · exact ⟨by simp, by decide +kernel, by decide, by decide⟩
  · exact ⟨by simp, by decide +kernel, by decide, by decide⟩
  · exact ⟨by simp, by decide +kernel, by decide, by decide⟩
/-- THE RULE of an operation -/
theorem op_ok (g : Good T Fs cl fc wE nf N sc so X) {o : Op} {e : Expr} {es : Es} {l : List Expr} (h : opSubs T sc o e = some l) (hs : slOk o es = true) (p : PEs Fs fc wE X l es) : PE X e (tV fc wE (evT Fs (.op o es))) := by
  have hu := g.hu
  have hgen : (match binO o with
    | some op => binSubs op e
    | none => match cmpO o with
      | some op => cmpSubs op e
      | none => match bltO o with
        | some z => bltSubs T sc z e
        | none => none) = some l → PE X e (tV fc wE (evT Fs (.op o es))) := by
    intro h
    split at h
    · next op ho =>
      obtain ⟨a, b, p', rfl, rfl⟩ := binSubs_eq h
      cases p with
      | cons pa na t => cases t with
        | cons pb nb t =>
          cases t
          exact sv_bin pa pb (bin_od ho) g.w
    · split at h
      · next op ho =>
        obtain ⟨a, b, p', rfl, rfl, hn⟩ := cmpSubs_eq h
        cases p with
        | cons pa na t => cases t with
          | cons pb nb t =>
            cases t
            exact sv_cmp pa pb (cmp_od hu ho) g.w hn
      · split at h
        · next z ho =>
          obtain ⟨x, p1, a, l', p2, rfl, rfl, hb⟩ := bltSubs_eq h
          obtain ⟨rfl, hm, hg⟩ := g.bC hb
          obtain ⟨f, h1, h2, h3, h4, h5⟩ := blt_od hu g.calm g.gd ho
          exact sv_blt h1 hg hm p.pa h3 g.w p.ns h2 h4 h5
        · cases h
  cases o <;> first | exact hgen h | skip
  case neg =>
    change unSubs e = some l at h
    unfold unSubs at h
    split at h
    · split at h
      · next z =>
        cases h
        subst z
        cases p with
        | cons pa na t => cases t; exact sv_un pa od_neg g.w
      · cases h
    · cases h
  case isC c =>
    obtain ⟨a, k, j, p1, p2, rfl, rfl, hk⟩ := isSubs_eq h
    cases p with
    | cons pa na t => cases t; exact sv_is pa hk (od_isC (constIs_le hk)) g.w
  case isnC c =>
    obtain ⟨a, k, j, p1, p2, rfl, rfl, hk⟩ := isSubs_eq h
    cases p with
    | cons pa na t => cases t; exact sv_is pa hk (od_isnC (constIs_le hk)) g.w
  case idx =>
    change idxSubs e = some l at h
    unfold idxSubs at h
    split at h
    · split at h
      · next z =>
        cases h
        cases p with
        | cons pa na t => cases t with
          | cons pb nb t => cases t; exact sv_idx pa pb (od_idx (ns_ix z)) g.w
      · cases h
    · cases h
  case slL =>
    change slLSubs e = some l at h
    unfold slLSubs at h
    split at h
    · cases h
      cases p with
      | cons pa na t => cases t with
        | cons pb nb t => cases t; exact sv_slL pa pb
    · cases h
  case slH =>
    change slHSubs e = some l at h
    unfold slHSubs at h
    split at h
    · cases h
      cases p with
      | cons pa na t => cases t with
        | cons pb nb t => cases t; exact sv_slH pa pb
    · cases h
  case slLH =>
    change slLHSubs e = some l at h
    unfold slLHSubs at h
    split at h
    · cases h
      cases p with
      | cons pa na t => cases t with
        | @cons _ _ B _ pb nb t => cases t with
          | cons pc nc t =>
            cases t
            cases B with
            | asI B => exact sv_slLH pa pb pc
            | _ => simp [slOk] at hs
    · cases h
  case rngL =>
    change rngSubs T sc "list" e = some l at h
    unfold rngSubs at h
    split at h
    · split at h
      · next z =>
        cases h
        simp only [Bool.and_eq_true] at z
        obtain ⟨rfl, m1, g1⟩ := g.bC z.1
        obtain ⟨rfl, m2, g2⟩ := g.bC z.2
        cases p with
        | cons pa na t => cases t; exact sv_rngL g.calm g1 m1 g2 m2 pa na
      · cases h
    · cases h
  case rngT =>
    change rngSubs T sc "tuple" e = some l at h
    unfold rngSubs at h
    split at h
    · split at h
      · next z =>
        cases h
        simp only [Bool.and_eq_true] at z
        obtain ⟨rfl, m1, g1⟩ := g.bC z.1
        obtain ⟨rfl, m2, g2⟩ := g.bC z.2
        cases p with
        | cons pa na t => cases t; exact sv_rngT g.calm g1 m1 g2 m2 pa na
      · cases h
    · cases h
  case isa t =>
    change isaSubs T sc t e = some l at h
    unfold isaSubs at h
    split at h
    · split at h
      · next z =>
        cases h
        simp only [Bool.and_eq_true, decide_eq_true_eq] at z
        obtain ⟨⟨⟨z1, z2⟩, z3⟩, z4⟩ := z
        obtain ⟨rfl, m1, g1⟩ := g.bC z1
        obtain ⟨i1, i2, i3, i4⟩ := isaT_eq z2
        cases p with
        | cons pa na t => cases t; exact sv_isa pa g1 m1 (g.gl z4) (g.blt _ (by simpa using z3)) i2 i3 i4 i1 na g.w
      · cases h
    · cases h
end
end Mp
set_option Elab.async false
set_option linter.all false
set_option maxRecDepth 100000
set_option maxHeartbeats 4000000
set_option autoImplicit false
/-! Mp19: the check of expressions, sound -/
namespace Mp
open PySem PySem.Spec PyProof.Rows L2
def kOk : Mp.D → Expr → Bool
  | .int i, .Constant (.int j) _ _ => decide (i = j)
  | .bool a, .Constant (.bool b) _ _ => a == b
  | .none, .Constant .none _ _ => true
  | .str x, .Constant (.str y) _ _ => decide (x = y)
  | _, _ => false
def globOk (T : Tab) (sc : Scope) (x : Str) (d : Mp.D) : Expr → Bool
  | .Name y _ => decide (x = y) && glC sc x && dbg x && (match d with | .int i => T.cst.contains (x, i) | _ => false)
  | _ => false
def tgC (N : List Str) (sc : Scope) (so : Str → Bool) (i : Nat) : Expr → Bool
  | .Name x _ => decide (N[i]? = some x) && (decide (sc.names.lookup x = some .local) || (decide (sc.names.lookup x = some .cell) && so x))
  | _ => false
def tupSub : Expr → Option (List Expr)
  | .Tuple l _ _ => some l
  | _ => none
def lstSub : Expr → Option (List Expr)
  | .List l _ => some l
  | _ => none
def chainSub (o o2 : Op) : Expr → Option (Expr × Expr × Expr)
  | .Compare x [p, q] [y, z] _ => if decide (cmpO o = some p) && decide (cmpO o2 = some q) && nset z then some (x, y, z) else none
  | _ => none
def andNx (y : Expr) (rest : List Expr) (op : BoolOp) (pos : Pos) : Expr := match rest with
  | [] => y
  | _ => .BoolOp op (y :: rest) pos
def andSub : Expr → Option (Expr × Expr)
  | .BoolOp .And (x :: y :: rest) pos => some (x, andNx y rest .And pos)
  | _ => none
def orSub : Expr → Option (Expr × Expr)
  | .BoolOp .Or (x :: y :: rest) pos => some (x, andNx y rest .Or pos)
  | _ => none
def notSub : Expr → Option Expr
  | .UnaryOp .Not x _ => some x
  | _ => none
def ifeSub : Expr → Option (Expr × Expr × Expr)
  | .IfExp z x y _ => some (z, x, y)
  | _ => none
def callSub : Expr → Option (Str × List Expr)
  | .Call (.Name x _) (e0 :: l) [] _ => some (x, e0 :: l)
  | _ => none
/-- a.m(b): the method, a, b -/
def methSubE : Expr → Option (Str × Expr × Expr)
  | .Call (.Attribute a m apos) [b] [] cpos => if apos.endLine == cpos.line then some (m, a, b) else none
  | _ => none
def lcSub : Expr → Option (Expr × Expr × Expr × Scope)
  | .ListComp elt [⟨tg, iter, [], 0⟩] scope _ => some (elt, tg, iter, scope)
  | _ => none
def lcIfSub : Expr → Option (Expr × Expr × Expr × Expr × Scope)
  | .ListComp elt [⟨tg, iter, [z], 0⟩] scope _ => some (elt, tg, iter, z, scope)
  | _ => none
def lc2Sub : Expr → Option (Expr × Expr × Expr × Expr × Expr × Scope)
  | .ListComp elt [⟨tg, iter, [], 0⟩, ⟨tg2, iter2, [], 0⟩] scope _ => some (elt, tg, iter, tg2, iter2, scope)
  | _ => none
theorem lc2Sub_eq {e : Expr} {q : Expr × Expr × Expr × Expr × Expr × Scope} (h : lc2Sub e = some q) : ∃ p, e = .ListComp q.1 [⟨q.2.1, q.2.2.1, [], 0⟩, ⟨q.2.2.2.1, q.2.2.2.2.1, [], 0⟩] q.2.2.2.2.2 p := by
  unfold lc2Sub at h; split at h <;> cases h; exact ⟨_, rfl⟩
def rngSub (T : Tab) (sc : Scope) : Expr → Option Expr
  | .Call (.Name x _) [y] [] _ => if bC T sc x "range" && ns y then some y else none
  | _ => none
def rng2Sub (T : Tab) (sc : Scope) : Expr → Option (Expr × Expr)
  | .Call (.Name x _) [y, z] [] _ => if bC T sc x "range" && ns y && ns z then some (y, z) else none
  | _ => none
def zip2Sub (T : Tab) (sc : Scope) : Expr → Option (Expr × Expr)
  | .Call (.Name x _) [y, z] [] _ => if bC T sc x "zip" && ns y && ns z then some (y, z) else none
  | _ => none
theorem zip2Sub_eq {T : Tab} {sc : Scope} {e : Expr} {q : Expr × Expr} (h : zip2Sub T sc e = some q) : ∃ x p p2, e = .Call (.Name x p) [q.1, q.2] [] p2 ∧ bC T sc x "zip" = true ∧ ns q.1 = true ∧ ns q.2 = true := by
  unfold zip2Sub at h
  split at h
  · split at h
    · next z => cases h; simp only [Bool.and_eq_true] at z; exact ⟨_, _, _, rfl, z.1.1, z.1.2, z.2⟩
    · cases h
  · cases h
theorem rng2Sub_eq {T : Tab} {sc : Scope} {e : Expr} {q : Expr × Expr} (h : rng2Sub T sc e = some q) : ∃ x p p2, e = .Call (.Name x p) [q.1, q.2] [] p2 ∧ bC T sc x "range" = true ∧ ns q.1 = true ∧ ns q.2 = true := by
  unfold rng2Sub at h
  split at h
  · split at h
    · next z => cases h; simp only [Bool.and_eq_true] at z; exact ⟨_, _, _, rfl, z.1.1, z.1.2, z.2⟩
    · cases h
  · cases h
def isTupE : Expr → Bool
  | .Tuple .. => true
  | _ => false
theorem isTupE_eq {e : Expr} (h : isTupE e = true) : ∃ l k p, e = .Tuple l k p := by
  unfold isTupE at h; split at h <;> first | exact ⟨_, _, _, rfl⟩ | cases h
def unc : List Expr → Option (Expr × List Expr)
  | e :: l => some (e, l)
  | [] => none
mutual
def okT (N : List Str) (sc : Scope) (so : Str → Bool) : Tg → Expr → Bool
  | .nm i, e => tgC N sc so i e
  | .tup ts, e => match tupSub e with
    | some es => okTs N sc so ts es
    | none => false
def okTs (N : List Str) (sc : Scope) (so : Str → Bool) : List Tg → List Expr → Bool
  | [], [] => true
  | t :: ts, e :: es => ns e && okT N sc so t e && okTs N sc so ts es
  | _, _ => false
end
def ownN (N : List Str) (own : List Nat) : List (Str × Nat) := own.map fun i => (N.getD i "", i)
def fnIs (T : Tab) (f : Nat) (x : Str) : Bool := match T.fns[f]? with
  | some (y, _) => decide (x = y)
  | none => false
section
variable (T : Tab) (nf : Nat) (N : List Str)
mutual
def okE : E → Scope → (Str → Bool) → Expr → Bool
  | .k d, _, _, e => kOk d e
  | .glob x d, sc, _, e => globOk T sc x d e
  | .nm i, sc, _, e => nameC N sc i e
  | .fz i, sc, _, e => nameC N sc i e
  | .op o es, sc, so, e => slOk o es && match opSubs T sc o e with
    | some l => okEs es sc so l
    | none => false
  | .tup es, sc, so, e => match tupSub e with
    | some l => okEs es sc so l
    | none => false
  | .lst es, sc, so, e => match lstSub e with
    | some l => okEs es sc so l
    | none => false
  | .dget _ _ _, _, _, _ => false
  | .chain o o2 a b c, sc, so, e => match chainSub o o2 e with
    | some q => okE a sc so q.1 && okE b sc so q.2.1 && okE c sc so q.2.2
    | none => false
  | .and a b, sc, so, e => match andSub e with
    | some q => okE a sc so q.1 && okE b sc so q.2
    | none => false
  | .or a b, sc, so, e => match orSub e with
    | some q => okE a sc so q.1 && okE b sc so q.2
    | none => false
  | .not a, sc, so, e => match notSub e with
    | some x => okE a sc so x
    | none => false
  | .ife c a b, sc, so, e => match ifeSub e with
    | some q => okE c sc so q.1 && okE a sc so q.2.1 && okE b sc so q.2.2
    | none => false
  | .asI a, sc, so, e => plainT e && okE a sc so e
  | .meth o a b, sc, so, e => match methSubE e with
    | some q => decide (methNm o = some q.1) && ns q.2.2 && nc0 q.2.1 && okE a sc so q.2.1 && okE b sc so q.2.2
    | none => false
  | .call f es, sc, so, e => match callSub e with
    | some q => decide (f < nf) && fnIs T f q.1 && glC sc q.1 && dbg q.1 && okEs es sc so q.2
    | none => false
  | .lc own a t it, sc, so, e => match lcSub e with
    | some q => blkC N sc q.2.2.2 (ownN N own) && nset q.2.2.1 && okT N (relS q.2.2.2 sc) (blkSo q.2.2.2) t q.2.1 && okE a (relS q.2.2.2 sc) (blkSo q.2.2.2) q.1 && okI it sc so q.2.1 q.2.2.1
    | none => false
  | .lcIf own a t it c, sc, so, e => match lcIfSub e with
    | some q => blkC N sc q.2.2.2.2 (ownN N own) && nset q.2.2.1 && okT N (relS q.2.2.2.2 sc) (blkSo q.2.2.2.2) t q.2.1 && okE a (relS q.2.2.2.2 sc) (blkSo q.2.2.2.2) q.1 && okE c (relS q.2.2.2.2 sc) (blkSo q.2.2.2.2) q.2.2.2.1 && okI it sc so q.2.1 q.2.2.1
    | none => false
  | .lc2 own a t it t2 it2 own2, sc, so, e => match lc2Sub e with
    | some q => blkC N sc q.2.2.2.2.2 (ownN N own) && nset q.2.2.1 && nset q.2.2.2.2.1 && own2.all own.contains && okT N (relS q.2.2.2.2.2 sc) (blkSo q.2.2.2.2.2) t q.2.1 && okT N (relS q.2.2.2.2.2 sc) (blkSo q.2.2.2.2.2) t2 q.2.2.2.1 &&
        okE a (relS q.2.2.2.2.2 sc) (blkSo q.2.2.2.2.2) q.1 && okI it2 (relS q.2.2.2.2.2 sc) (blkSo q.2.2.2.2.2) q.2.2.2.1 q.2.2.2.2.1 && okI it sc so q.2.1 q.2.2.1
    | none => false
  | .dc _ _ _ _ _, _, _, _ => false
def okEs : Es → Scope → (Str → Bool) → List Expr → Bool
  | .nil, _, _, l => l.isEmpty
  | .cons a as, sc, so, l => match unc l with
    | some q => ns q.1 && okE a sc so q.1 && okEs as sc so q.2
    | none => false
def okI : I → Scope → (Str → Bool) → Expr → Expr → Bool
  | .seq a, sc, so, tg, e => okE a sc so e
  | .rng a, sc, so, tg, e => match rngSub T sc e with
    | some y => okE a sc so y
    | none => false
  | .rng2 a b, sc, so, tg, e => match rng2Sub T sc e with
    | some q => okE a sc so q.1 && okE b sc so q.2
    | none => false
  | .zip2 a b, sc, so, tg, e => match zip2Sub T sc e with
    | some q => isTupE tg && okE a sc so q.1 && okE b sc so q.2
    | none => false
  | .zip3 _ _ _, _, _, _, _ => false
  | .enum _, _, _, _, _ => false
  | .items _, _, _, _, _ => false
  | .keys _, _, _, _, _ => false
end
end
section
variable {T : Tab} {Fs : Nat → Fn} {cl : Nat → Addr} {fc : Fc} {wE : Wish}
variable {nf : Nat} {N : List Str} {sc : Scope} {so : Str → Bool} {X : Cx}
theorem dbg_ok {x : Str} (h : dbg x = true) : (x == ("__debug__" : Str)) = false ∧ (x == ("__classdict__" : Str)) = false ∧ x ≠ "__name__" := by
  unfold dbg at h
  simp only [Bool.and_eq_true, Bool.not_eq_true'] at h
  exact ⟨h.1.1, h.1.2, fun z => by rw [z] at h; exact absurd h.2 (by decide)⟩
theorem vis_ok {x : Str} (h : visC sc x = true) : Vis sc x := by
  unfold visC at h
  split at h
  · next e => exact .inl e
  · next e => exact .inr (.inl e)
  · next e => exact .inr (.inr e)
  · cases h
theorem kOk_ok {d : Mp.D} {e : Expr} (h : kOk d e = true) : PE X e (tO fc wE (evE Fs (.k d))) := by
  unfold kOk at h
  split at h
  · have := of_decide_eq_true h; subst this; exact sx_int
  · have := eq_of_beq h; subst this; exact sx_bool
  · exact sx_none
  · have := of_decide_eq_true h; subst this; exact sx_str
  · cases h
theorem nameC_ok (g : Good T Fs cl fc wE nf N sc so X) {i : Nat} {e : Expr} (h : nameC N sc i e = true) : ∃ x p, e = .Name x p ∧ X.N[i]? = some x ∧ Vis X.env.scope x ∧ (x == ("__debug__" : Str)) = false ∧ (x == ("__classdict__" : Str)) = false := by
  unfold nameC at h
  split at h
  · simp only [Bool.and_eq_true, decide_eq_true_eq] at h
    obtain ⟨⟨h1, h2⟩, h3⟩ := h
    obtain ⟨a, b, _⟩ := dbg_ok h3
    exact ⟨_, _, rfl, by rw [g.N]; exact h1, by rw [g.sc]; exact vis_ok h2, a, b⟩
  · cases h
theorem ownN_eq (own : List Nat) : (ownN N own).map (·.2) = own := by
  unfold ownN
  rw [List.map_map]
  exact List.map_id own
theorem tupSub_eq {e : Expr} {l : List Expr} (h : tupSub e = some l) : ∃ k p, e = .Tuple l k p := by
  unfold tupSub at h; split at h <;> cases h; exact ⟨_, _, rfl⟩
theorem lstSub_eq {e : Expr} {l : List Expr} (h : lstSub e = some l) : ∃ p, e = .List l p := by
  unfold lstSub at h; split at h <;> cases h; exact ⟨_, rfl⟩
theorem chainSub_eq {o o2 : Op} {e : Expr} {q : Expr × Expr × Expr} (h : chainSub o o2 e = some q) : ∃ op op' p, e = .Compare q.1 [op, op'] [q.2.1, q.2.2] p ∧ cmpO o = some op ∧ cmpO o2 = some op' ∧ nset q.2.2 = true := by
  unfold chainSub at h
  split at h
  · split at h
    · next z => cases h; simp only [Bool.and_eq_true, decide_eq_true_eq] at z; exact ⟨_, _, _, rfl, z.1.1, z.1.2, z.2⟩
    · cases h
  · cases h
theorem andSub_eq {e : Expr} {q : Expr × Expr} (h : andSub e = some q) : ∃ y rest p, e = .BoolOp .And (q.1 :: y :: rest) p ∧ q.2 = andNx y rest .And p := by
  unfold andSub at h; split at h <;> cases h; exact ⟨_, _, _, rfl, rfl⟩
theorem orSub_eq {e : Expr} {q : Expr × Expr} (h : orSub e = some q) : ∃ y rest p, e = .BoolOp .Or (q.1 :: y :: rest) p ∧ q.2 = andNx y rest .Or p := by
  unfold orSub at h; split at h <;> cases h; exact ⟨_, _, _, rfl, rfl⟩
theorem notSub_eq {e x : Expr} (h : notSub e = some x) : ∃ p, e = .UnaryOp .Not x p := by
  unfold notSub at h; split at h <;> cases h; exact ⟨_, rfl⟩
theorem ifeSub_eq {e : Expr} {q : Expr × Expr × Expr} (h : ifeSub e = some q) : ∃ p, e = .IfExp q.1 q.2.1 q.2.2 p := by
  unfold ifeSub at h; split at h <;> cases h; exact ⟨_, rfl⟩
theorem callSub_eq {e : Expr} {q : Str × List Expr} (h : callSub e = some q) : ∃ e0 l p p2, e = .Call (.Name q.1 p) (e0 :: l) [] p2 ∧ q.2 = e0 :: l := by
  unfold callSub at h; split at h <;> cases h; exact ⟨_, _, _, _, rfl, rfl⟩
theorem methSubE_eq {e : Expr} {q : Str × Expr × Expr} (h : methSubE e = some q) : ∃ ap cp, e = .Call (.Attribute q.2.1 q.1 ap) [q.2.2] [] cp ∧ (ap.endLine == cp.line) = true := by
  unfold methSubE at h; split at h
  · split at h
    · next z => cases h; exact ⟨_, _, rfl, z⟩
    · cases h
  · cases h
theorem lcSub_eq {e : Expr} {q : Expr × Expr × Expr × Scope} (h : lcSub e = some q) : ∃ p, e = .ListComp q.1 [⟨q.2.1, q.2.2.1, [], 0⟩] q.2.2.2 p := by
  unfold lcSub at h; split at h <;> cases h; exact ⟨_, rfl⟩
theorem lcIfSub_eq {e : Expr} {q : Expr × Expr × Expr × Expr × Scope} (h : lcIfSub e = some q) : ∃ p, e = .ListComp q.1 [⟨q.2.1, q.2.2.1, [q.2.2.2.1], 0⟩] q.2.2.2.2 p := by
  unfold lcIfSub at h; split at h <;> cases h; exact ⟨_, rfl⟩
theorem rngSub_eq {e y : Expr} (h : rngSub T sc e = some y) : ∃ x p p2, e = .Call (.Name x p) [y] [] p2 ∧ bC T sc x "range" = true ∧ ns y = true := by
  unfold rngSub at h
  split at h
  · split at h
    · next z => cases h; simp only [Bool.and_eq_true] at z; exact ⟨_, _, _, rfl, z.1, z.2⟩
    · cases h
  · cases h
theorem unc_eq {l : List Expr} {q : Expr × List Expr} (h : unc l = some q) : l = q.1 :: q.2 := by
  unfold unc at h; split at h <;> cases h; rfl
mutual
theorem okT_ok (g : Good T Fs cl fc wE nf N sc so X) : ∀ (t : Tg) (e : Expr), okT N sc so t e = true → PG X e (tG fc t)
  | .nm i, e, h => by
    rw [okT] at h
    unfold tgC at h
    split at h
    · simp only [Bool.and_eq_true, Bool.or_eq_true, decide_eq_true_eq] at h
      obtain ⟨h1, h2⟩ := h
      refine sg_name g.nd (by rw [g.N]; exact h1) ?_ ?_
      · rw [g.sc]
        rcases h2 with h2 | h2
        · exact .inl h2
        · exact .inr h2.1
      · rcases h2 with h2 | h2
        · exact .inr (by rw [g.sc]; exact h2)
        · exact .inl (g.so _ h2.2)
    · cases h
  | .tup ts, e, h => by
    rw [okT] at h
    split at h
    · next es he =>
      obtain ⟨k, p, rfl⟩ := tupSub_eq he
      have := okTs_ok g ts _ h
      exact sg_tup g.calm this.1 this.2.1 this.2.2
    · cases h
theorem okTs_ok (g : Good T Fs cl fc wE nf N sc so X) : ∀ (ts : List Tg) (es : List Expr), okTs N sc so ts es = true → PGs X es (tGs fc ts) ∧ es.all ns = true ∧ ts.length = es.length
  | [], [], _ => ⟨sgs_nil, rfl, rfl⟩
  | t :: ts, e :: es, h => by
    rw [okTs] at h
    simp only [Bool.and_eq_true] at h
    obtain ⟨a, b, c⟩ := okTs_ok g ts es h.2
    exact ⟨sgs_cons (okT_ok g t e h.1.2) a h.1.1, by simp [h.1.1, b], by simp [c]⟩
  | [], _ :: _, h => by simp [okTs] at h
  | _ :: _, [], h => by simp [okTs] at h
end
theorem own_sub {own own2 : List Nat} (h : own2.all own.contains = true) : ∀ i ∈ own2, i ∈ own := fun i hi => by
  have := List.all_eq_true.mp h i hi
  simpa using this
/-- what is known of an expression -/
structure Ok3 (Fs : Nat → Fn) (fc : Fc) (wE : Wish) (X : Cx) (x : Expr) (A : E) : Prop where
  e : PE X x (tO fc wE (evE Fs A))
  v : PE X x (tV fc wE (evT Fs A))
  t : PT X x (tB fc wE (evB Fs A))
theorem Ok3.ofE {e : Expr} {A : E} (g : Good T Fs cl fc wE nf N sc so X) (h : PE X e (tO fc wE (evE Fs A))) (hv : evT Fs A = (evE Fs A).bnd fun x => .get fun _ => x.sv) (hp : plainT e = true) : Ok3 Fs fc wE X e A :=
  ⟨h, sx_toV h hv, sx_plainT h (dTru X) g.w hp⟩
theorem Ok3.ofV {e : Expr} {A : E} (g : Good T Fs cl fc wE nf N sc so X) (h : PE X e (tV fc wE (evT Fs A))) (hv : evE Fs A = (evT Fs A).bnd fun v => .get fun _ => v.opd) (hp : plainT e = true) : Ok3 Fs fc wE X e A :=
  ⟨sx_ofV h hv, h, sx_plainT (sx_ofV h hv) (dTru X) g.w hp⟩
theorem pwB {op : BoolOp} {l : List Expr} {pos : Pos} {t : TT} (h : PT X (.BoolOp op l pos) t) : PW X (.BoolOp op l pos) t := ⟨fun _ pins s σ H Q I q => h.run pins s σ H Q I q⟩
theorem andNx_e {y : Expr} {rest : List Expr} {op : BoolOp} {pos : Pos} {t : TE} (h : PE X (andNx y rest op pos) t) : PE X (.BoolOp op (y :: rest) pos) t := by
  unfold andNx at h
  split at h
  · exact pe_one h
  · exact h
theorem andNx_tA {y : Expr} {rest : List Expr} {pos : Pos} {t : TT} (h : PT X (andNx y rest .And pos) t) : PW X (.BoolOp .And (y :: rest) pos) t := by
  unfold andNx at h
  split at h
  · exact pw_and1 h
  · exact pwB h
theorem andNx_tO {y : Expr} {rest : List Expr} {pos : Pos} {t : TT} (h : PT X (andNx y rest .Or pos) t) : PW X (.BoolOp .Or (y :: rest) pos) t := by
  unfold andNx at h
  split at h
  · exact pw_or1 h
  · exact pwB h
/-- an operation as a test -/
theorem op_test (g : Good T Fs cl fc wE nf N sc so X) {o : Op} {e : Expr} {es : Es} {l : List Expr} (h : opSubs T sc o e = some l) (p : PEs Fs fc wE X l es) (pe : PE X e (tO fc wE (evE Fs (.op o es)))) : PT X e (tB fc wE (evB Fs (.op o es))) := by
  by_cases hp : plainT e = true
  · exact sx_plainT pe (dTru X) g.w hp
  · have hu := g.hu
    have hgen : (match binO o with
      | some op => binSubs op e
      | none => match cmpO o with
        | some op => cmpSubs op e
        | none => match bltO o with
          | some z => bltSubs T sc z e
          | none => none) = some l → PT X e (tB fc wE (evB Fs (.op o es))) := by
      intro h
      split at h
      · next op ho =>
        obtain ⟨a, b, p', rfl, rfl⟩ := binSubs_eq h
        exact absurd rfl hp
      · split at h
        · next op ho =>
          obtain ⟨a, b, p', rfl, rfl, hn⟩ := cmpSubs_eq h
          cases p with
          | cons pa na t => cases t with
            | cons pb nb t =>
              cases t
              exact sx_cmpT pa pb (cmp_od hu ho) (dTru X) g.w hn
        · split at h
          · next z ho =>
            obtain ⟨x, p1, a, l', p2, rfl, rfl, hb⟩ := bltSubs_eq h
            exact absurd rfl hp
          · cases h
    cases o <;> first | exact hgen h | skip
    case isC c =>
      obtain ⟨a, k, j, p1, p2, rfl, rfl, hk⟩ := isSubs_eq h
      cases p with
      | cons pa na t => cases t; exact sx_isT pa hk (od_isC (constIs_le hk)) (dTru X) g.w
    case isnC c =>
      obtain ⟨a, k, j, p1, p2, rfl, rfl, hk⟩ := isSubs_eq h
      cases p with
      | cons pa na t => cases t; exact sx_isT pa hk (od_isnC (constIs_le hk)) (dTru X) g.w
    case neg =>
      change unSubs e = some l at h
      unfold unSubs at h
      split at h
      · split at h
        · next z => subst z; exact absurd rfl hp
        · cases h
      · cases h
    case idx => change idxSubs e = some l at h; unfold idxSubs at h; split at h <;> first | exact absurd rfl hp | cases h
    case slL => change slLSubs e = some l at h; unfold slLSubs at h; split at h <;> first | exact absurd rfl hp | cases h
    case slH => change slHSubs e = some l at h; unfold slHSubs at h; split at h <;> first | exact absurd rfl hp | cases h
    case slLH => change slLHSubs e = some l at h; unfold slLHSubs at h; split at h <;> first | exact absurd rfl hp | cases h
    case rngL => change rngSubs T sc "list" e = some l at h; unfold rngSubs at h; split at h <;> first | exact absurd rfl hp | cases h
    case rngT => change rngSubs T sc "tuple" e = some l at h; unfold rngSubs at h; split at h <;> first | exact absurd rfl hp | cases h
    case isa t => change isaSubs T sc t e = some l at h; unfold isaSubs at h; split at h <;> first | exact absurd rfl hp | cases h
theorem fnIs_ok {f : Nat} {x : Str} (h : fnIs T f x = true) : ∃ ps, T.fns[f]? = some (x, ps) := by
  unfold fnIs at h
  split at h
  · next y ps e => have := of_decide_eq_true h; subst this; exact ⟨ps, e⟩
  · cases h
mutual
theorem okE_ok : ∀ (A : E) (sc : Scope) (so : Str → Bool) (X : Cx) (wE : Wish) (e : Expr), Good T Fs cl fc wE nf N sc so X → okE T nf N A sc so e = true → Ok3 Fs fc wE X e A
  | .k d, sc, so, X, wE, e, g, h => by
    rw [okE] at h
    refine .ofE g (kOk_ok h) rfl ?_
    unfold kOk at h
    split at h <;> first | rfl | cases h
  | .glob x d, sc, so, X, wE, e, g, h => by
    rw [okE] at h
    unfold globOk at h
    split at h
    · simp only [Bool.and_eq_true, decide_eq_true_eq] at h
      obtain ⟨⟨⟨rfl, h2⟩, h3⟩, h4⟩ := h
      split at h4
      · next i =>
        obtain ⟨t, ht⟩ := g.cst (_, i) (by simpa using h4)
        exact .ofE g (sx_glob (g.gl h2) ht (dbg_ok h3).1) rfl rfl
      · cases h4
    · cases h
  | .nm i, sc, so, X, wE, e, g, h => by
    rw [okE] at h
    obtain ⟨x, p, rfl, h1, h2, h3, h4⟩ := nameC_ok g h
    exact .ofE g (sx_nm h1 h2 h3 h4) rfl rfl
  | .fz i, sc, so, X, wE, e, g, h => by
    rw [okE] at h
    obtain ⟨x, p, rfl, h1, h2, h3, h4⟩ := nameC_ok g h
    exact .ofE g (sx_fz h1 h2 h3 h4) rfl rfl
  | .op o es, sc, so, X, wE, e, g, h => by
    rw [okE] at h
    simp only [Bool.and_eq_true] at h
    obtain ⟨h1, h2⟩ := h
    split at h2
    · next l hl =>
      have p := okEs_ok es sc so X wE l g h2
      have v := op_ok g hl h1 p
      exact ⟨sx_ofV v (evE_op o es), v, op_test g hl p (sx_ofV v (evE_op o es))⟩
    · cases h2
  | .tup es, sc, so, X, wE, e, g, h => by
    rw [okE] at h
    split at h
    · next l hl =>
      obtain ⟨k, p, rfl⟩ := tupSub_eq hl
      exact .ofE g (sx_tup (okEs_ok es sc so X wE _ g h).pa) rfl rfl
    · cases h
  | .lst es, sc, so, X, wE, e, g, h => by
    rw [okE] at h
    split at h
    · next l hl =>
      obtain ⟨p, rfl⟩ := lstSub_eq hl
      exact .ofV g (sv_lst (okEs_ok es sc so X wE _ g h).pa) (evE_lst es) rfl
    · cases h
  | .dget _ _ _, sc, so, X, wE, e, g, h => by rw [okE] at h; cases h
  | .chain o o2 a b c, sc, so, X, wE, e, g, h => by
    rw [okE] at h
    split at h
    · next q hq =>
      obtain ⟨op, op', p, rfl, h1, h2, h3⟩ := chainSub_eq hq
      simp only [Bool.and_eq_true] at h
      obtain ⟨⟨h4, h5⟩, h6⟩ := h
      have ka := okE_ok a sc so X wE _ g h4
      have kb := okE_ok b sc so X wE _ g h5
      have kc := okE_ok c sc so X wE _ g h6
      have pe := sx_chain (pos := p) ka.e kb.e kc.e (cmp_od g.hu h1) (cmp_od g.hu h2) g.w h3
      exact ⟨pe, sx_toV pe rfl, sx_chainT ka.e kb.e kc.e (cmp_od g.hu h1) (cmp_od g.hu h2) (dTru X) g.w h3⟩
    · cases h
  | .and a b, sc, so, X, wE, e, g, h => by
    rw [okE] at h
    split at h
    · next q hq =>
      obtain ⟨y, rest, p, rfl, hq2⟩ := andSub_eq hq
      simp only [Bool.and_eq_true] at h
      have ka := okE_ok a sc so X wE _ g h.1
      have kb := okE_ok b sc so X wE _ g h.2
      rw [hq2] at kb
      have pe := sx_and (dTru X) g.w ka.e (andNx_e kb.e)
      exact ⟨pe, sx_toV pe rfl, (sx_andT ka.t (andNx_tA kb.t)).pt⟩
    · cases h
  | .or a b, sc, so, X, wE, e, g, h => by
    rw [okE] at h
    split at h
    · next q hq =>
      obtain ⟨y, rest, p, rfl, hq2⟩ := orSub_eq hq
      simp only [Bool.and_eq_true] at h
      have ka := okE_ok a sc so X wE _ g h.1
      have kb := okE_ok b sc so X wE _ g h.2
      rw [hq2] at kb
      have pe := sx_or (dTru X) g.w ka.e (andNx_e kb.e)
      exact ⟨pe, sx_toV pe rfl, (sx_orT ka.t (andNx_tO kb.t)).pt⟩
    · cases h
  | .not a, sc, so, X, wE, e, g, h => by
    rw [okE] at h
    split at h
    · next q hq =>
      obtain ⟨p, rfl⟩ := notSub_eq hq
      have ka := okE_ok a sc so X wE _ g h
      have pe := sx_not (pos := p) (dTru X) g.w ka.e
      exact ⟨pe, sx_toV pe rfl, sx_notT ka.t⟩
    · cases h
  | .ife c a b, sc, so, X, wE, e, g, h => by
    rw [okE] at h
    split at h
    · next q hq =>
      obtain ⟨p, rfl⟩ := ifeSub_eq hq
      simp only [Bool.and_eq_true] at h
      have kc := okE_ok c sc so X wE _ g h.1.1
      have ka := okE_ok a sc so X wE _ g h.1.2
      have kb := okE_ok b sc so X wE _ g h.2
      have pe := sx_ife (pos := p) kc.t ka.e kb.e
      exact ⟨pe, sx_toV pe rfl, sx_ifeT kc.t ka.t kb.t⟩
    · cases h
  | .asI a, sc, so, X, wE, e, g, h => by
    rw [okE] at h
    simp only [Bool.and_eq_true] at h
    exact .ofE g (sx_asI (okE_ok a sc so X wE _ g h.2).e) rfl h.1
  | .meth o a b, sc, so, X, wE, e, g, h => by
    rw [okE] at h
    split at h
    · next q hq =>
      obtain ⟨ap, cp, rfl, hl⟩ := methSubE_eq hq
      simp only [Bool.and_eq_true, decide_eq_true_eq] at h
      obtain ⟨⟨⟨⟨h1, h2⟩, h3⟩, h4⟩, h5⟩ := h
      exact .ofE g (sx_meth g.hu g.w (okE_ok a sc so X wE _ g h4).e (okE_ok b sc so X wE _ g h5).e h1 h2 h3 hl) rfl rfl
    · cases h
  | .call f es, sc, so, X, wE, e, g, h => by
    rw [okE] at h
    split at h
    · next q hq =>
      obtain ⟨e0, l, p1, p2, rfl, hq2⟩ := callSub_eq hq
      simp only [Bool.and_eq_true, decide_eq_true_eq] at h
      obtain ⟨⟨⟨⟨h1, h2⟩, h3⟩, h4⟩, h5⟩ := h
      obtain ⟨ps, hp⟩ := fnIs_ok h2
      have p := okEs_ok es sc so X wE _ g h5
      rw [hq2] at p
      exact .ofV g (sv_call (g.fn f _ ps h1 hp) g.room g.gd g.tk g.w (g.gl h3) (dbg_ok h4).1 p.pa p.ns) (evE_call f es) rfl
    · cases h
  | .lc own a t it, sc, so, X, wE, e, g, h => by
    rw [okE] at h
    split at h
    · next q hq =>
      obtain ⟨p, rfl⟩ := lcSub_eq hq
      simp only [Bool.and_eq_true] at h
      obtain ⟨⟨⟨⟨h1, h2⟩, h3⟩, h4⟩, h5⟩ := h
      have v := sx_lc (A := a) (t := t) (it := it) (pos := p) g (okI_ok it sc so X wE _ _ g h5) (blkOk_by h1) (fun X' g' => okT_ok g' t _ h3) (fun X' g' => (okE_ok a _ _ X' wNo _ g' h4).e) h2
      rw [ownN_eq] at v
      exact .ofV g v evE_lc rfl
    · cases h
  | .lcIf own a t it c, sc, so, X, wE, e, g, h => by
    rw [okE] at h
    split at h
    · next q hq =>
      obtain ⟨p, rfl⟩ := lcIfSub_eq hq
      simp only [Bool.and_eq_true] at h
      obtain ⟨⟨⟨⟨⟨h1, h2⟩, h3⟩, h4⟩, h5⟩, h6⟩ := h
      have v := sx_lcIf (A := a) (t := t) (it := it) (B := c) (pos := p) g (okI_ok it sc so X wE _ _ g h6) (blkOk_by h1) (fun X' g' => okT_ok g' t _ h3) (fun X' g' => (okE_ok a _ _ X' wNo _ g' h4).e) (fun X' g' => (okE_ok c _ _ X' wNo _ g' h5).t) h2
      rw [ownN_eq] at v
      exact .ofV g v evE_lcIf rfl
    · cases h
  | .lc2 own a t it t2 it2 own2, sc, so, X, wE, e, g, h => by
    rw [okE] at h
    split at h
    · next q hq =>
      obtain ⟨p, rfl⟩ := lc2Sub_eq hq
      simp only [Bool.and_eq_true] at h
      obtain ⟨⟨⟨⟨⟨⟨⟨⟨h1, h2⟩, h3⟩, h4⟩, h5⟩, h6⟩, h7⟩, h8⟩, h9⟩ := h
      have v := sx_lc2 (A := a) (t := t) (it := it) (t2 := t2) (it2 := it2) (own2 := own2) (pos := p) g (okI_ok it sc so X wE _ _ g h9) (blkOk_by h1) (by rw [ownN_eq]; exact own_sub h4) (fun X' g' => okT_ok g' t _ h5) (fun X' g' => okI_ok it2 _ _ X' wNo _ _ g' h8) (fun X' g' => okT_ok g' t2 _ h6) (fun X' g' => (okE_ok a _ _ X' wNo _ g' h7).e) h2 h3
      rw [ownN_eq] at v
      exact .ofV g v evE_lc2 rfl
    · cases h
  | .dc _ _ _ _ _, sc, so, X, wE, e, g, h => by rw [okE] at h; cases h
theorem okEs_ok : ∀ (A : Es) (sc : Scope) (so : Str → Bool) (X : Cx) (wE : Wish) (l : List Expr), Good T Fs cl fc wE nf N sc so X → okEs T nf N A sc so l = true → PEs Fs fc wE X l A
  | .nil, sc, so, X, wE, l, g, h => by
    rw [okEs] at h
    cases l with
    | nil => exact .nil
    | cons => cases h
  | .cons a as, sc, so, X, wE, l, g, h => by
    rw [okEs] at h
    split at h
    · next q hq =>
      have := unc_eq hq
      subst this
      simp only [Bool.and_eq_true] at h
      exact .cons (okE_ok a sc so X wE _ g h.1.2).e h.1.1 (okEs_ok as sc so X wE _ g h.2)
    · cases h
theorem okI_ok : ∀ (A : I) (sc : Scope) (so : Str → Bool) (X : Cx) (wE : Wish) (tg e : Expr), Good T Fs cl fc wE nf N sc so X → okI T nf N A sc so tg e = true → PI X tg e (tI fc wE (evI Fs A))
  | .seq a, sc, so, X, wE, tg, e, g, h => by
    rw [okI] at h
    exact si_seq (okE_ok a sc so X wE _ g h).e (dIt fc)
  | .rng a, sc, so, X, wE, tg, e, g, h => by
    rw [okI] at h
    split at h
    · next y hy =>
      obtain ⟨x, p1, p2, rfl, hb, hn⟩ := rngSub_eq hy
      obtain ⟨rfl, m1, g1⟩ := g.bC hb
      exact si_rng g1 m1 (okE_ok a sc so X wE _ g h).e hn
    · cases h
  | .rng2 a b, sc, so, X, wE, tg, e, g, h => by
    rw [okI] at h
    split at h
    · next q hq =>
      obtain ⟨x, p1, p2, rfl, hb, hn, hn2⟩ := rng2Sub_eq hq
      simp only [Bool.and_eq_true] at h
      obtain ⟨rfl, m1, g1⟩ := g.bC hb
      exact si_rng2 g1 m1 (okE_ok a sc so X wE _ g h.1).e (okE_ok b sc so X wE _ g h.2).e hn hn2
    · cases h
  | .zip2 a b, sc, so, X, wE, tg, e, g, h => by
    rw [okI] at h
    split at h
    · next q hq =>
      obtain ⟨x, p1, p2, rfl, hb, hn, hn2⟩ := zip2Sub_eq hq
      simp only [Bool.and_eq_true] at h
      obtain ⟨elts, kk, tp, rfl⟩ := isTupE_eq h.1.1
      obtain ⟨rfl, m1, g1⟩ := g.bC hb
      exact si_zip2 g1 m1 (okE_ok a sc so X wE _ g h.1.2).e (okE_ok b sc so X wE _ g h.2).e hn hn2
    · cases h
  | .zip3 _ _ _, sc, so, X, wE, tg, e, g, h => by rw [okI] at h; cases h
  | .enum _, sc, so, X, wE, tg, e, g, h => by rw [okI] at h; cases h
  | .items _, sc, so, X, wE, tg, e, g, h => by rw [okI] at h; cases h
  | .keys _, sc, so, X, wE, tg, e, g, h => by rw [okI] at h; cases h
end
end
end Mp
set_option Elab.async false
set_option linter.all false
set_option maxRecDepth 100000
set_option maxHeartbeats 4000000
set_option autoImplicit false
/-! Mp20: the check of statements, sound -/
namespace Mp
open PySem PySem.Spec PyProof.Rows L2
section
variable {T : Tab} {Fs : Nat → Fn} {cl : Nat → Addr} {fc : Fc} {wE : Wish}
variable {nf : Nat} {N : List Str} {sc : Scope} {so : Str → Bool} {X : Cx} {ρ ρ' : Rho} {W W' : Wd} {σ σ' : L2.St} {H H' : Hp} {pins : List (Addr × Obj)} {s : Shared} {D : Ends}
/-- name = e, the thing put into the store -/
theorem ss_asgB {i : Nat} {x : Str} {e : Expr} {A : E} {p pos : Pos} (he : PE X e (tV fc wE (evT Fs A))) (hN : X.N.Nodup) (hi : X.N[i]? = some x) (hx : Loc X.env.scope x) (hf : X.fn x = true ∨ X.env.scope.names.lookup x = some .local) (hs : swapsWith e (some (.Name x p)) pos.line X.env = pure false) :
    PS X (.Assign [.Name x p] e pos) (tS fc wE (evS Fs (.asgB i A))) := by
  refine ⟨fun pins s σ H D I h => (ps_set hN hi hx he hs hf).run pins s σ H D I ?_⟩
  obtain ⟨ρ, W, r, h⟩ := h
  rw [evS] at h
  refine ⟨ρ, W, r, ?_⟩
  unfold M.then at h
  unfold ExV
  cases e1 : evT Fs A ρ with
  | none => simp only [e1] at h; exact h
  | some z =>
    cases z with
    | exc c r1 => simp only [e1] at h; exact fun W' H' st r' => h σ W' H' (st.toS r) r'
    | ok v r1 =>
      simp only [e1] at h
      intro u W' H' st r' b
      cases v with
      | own d =>
        simp only at h
        cases e2 : wr { r1 with g := r1.g ++ [GE.lst d] } i (.gl r1.g.length) with
        | none => simp only [e2, Option.map_none] at h; exact h.elim
        | some r2 =>
          simp only [e2, Option.map_some] at h
          obtain ⟨rfl, hl⟩ := wr_eq e2
          obtain ⟨A2, ⟨a, rfl, ow⟩, nd, ha⟩ := b.sv
          have hu := ow.ref
          subst hu
          obtain ⟨h1, h2, h3, h4⟩ := ha a (by simp)
          have sl := Sl.kp (more := [a]) (Kp.refl (F := W'.F) (H := H')) (fun _ _ _ h => h) r'.sl
          have rb : R fc { r1 with g := r1.g ++ [GE.lst d] } ⟨W'.F, W'.A, W'.B ++ [a], W'.al ++ [a]⟩ σ H' := by
            refine ⟨sl, r'.g.app ow, ?_, fun b hb => ?_, r'.ft, r'.a0, fun b hb => ?_, r'.un, r'.f0, r'.fm, ?_, r'.gn⟩
            · have n := r'.nd
              rw [List.nodup_append] at n
              show (W'.A ++ (W'.B ++ [a])).Nodup
              rw [← List.append_assoc, List.nodup_append]
              refine ⟨r'.nd, by simp, fun b hb c hc z => ?_⟩
              obtain rfl : c = a := by simpa using hc
              subst z
              rcases List.mem_append.mp hb with hb | hb
              · exact h2 hb
              · exact h3 hb
            · have hb' : b ∈ W'.A ++ W'.B ∨ b = a := by
                simp only [List.mem_append, List.mem_singleton] at hb ⊢
                rcases hb with hb | hb | hb <;> simp [hb]
              rcases hb' with hb | rfl
              · exact r'.nf b hb
              · exact h4
            · have hb' : b ∈ W'.B ∨ b = a := by simpa using hb
              rcases hb' with hb | rfl
              · exact r'.b0 b hb
              · exact .inr (r.h0 h1)
            · obtain ⟨m, em⟩ := r'.al
              exact ⟨m ++ [a], by show W'.al ++ [a] = _; rw [em, List.append_assoc]⟩
          have hal : (W'.al ++ [a])[r1.g.length]? = some a := by rw [r'.g.len, List.getElem?_append_right (Nat.le_refl _)]; simp
          obtain ⟨A3, r3, _⟩ := rb.put (i := i) (sv := .gl r1.g.length) (v := .ref a) (A2 := []) ⟨rfl, a, hal, rfl⟩ (by simp) (by simp)
          have kp := Lk.T Fs A ρ _ r1 e1
          refine h _ ⟨W'.F, A3, W'.B ++ [a], W'.al ++ [a]⟩ H' ⟨(st.toS r).kp, fun j d' e => ?_⟩ r3
          rw [List.getElem?_set_ne]
          rintro rfl
          exact hl d' (kp.lck _ d' (by simp) e)
      | _ => exact h.elim
def notComp : Expr → Bool
  | .ListComp .. | .SetComp .. | .DictComp .. => false
  | _ => true
theorem nsw' {e : Expr} (h : notComp e = true) (t : Option Expr) (l : Nat) (env : Env) : swapsWith e t l env = pure false := by
  cases e <;> first | rfl | cases h
theorem nsw_cell {e : Expr} {x : Str} {p : Pos} (l : Nat) {env : Env} (h : env.kindOf x = some .cell) : swapsWith e (some (.Name x p)) l env = pure false := by
  unfold swapsWith
  have e2 : (env.kindOf x == some NameKind.local) = false := by rw [h]; rfl
  cases e with
  | ListComp elt gs scope pos =>
    show (pure (env.blockKind == .function && env.kindOf x == some .local && p.line == (Expr.ListComp elt gs scope pos).pos.line && !(scope.names.any fun (n, k) => n == x && (k == .local || k == .cell))) : Sem Bool) = pure false
    rw [e2]; simp
  | SetComp elt gs scope pos =>
    show (pure (env.blockKind == .function && env.kindOf x == some .local && p.line == (Expr.SetComp elt gs scope pos).pos.line && !(scope.names.any fun (n, k) => n == x && (k == .local || k == .cell))) : Sem Bool) = pure false
    rw [e2]; simp
  | DictComp a b gs scope pos =>
    show (pure (env.blockKind == .function && env.kindOf x == some .local && p.line == (Expr.DictComp a b gs scope pos).pos.line && !(scope.names.any fun (n, k) => n == x && (k == .local || k == .cell))) : Sem Bool) = pure false
    rw [e2]; simp
  | _ => rfl
end
/-! the pieces of statements -/
def asgSub : Stmt → Option (Str × Pos × Expr)
  | .Assign [.Name x p] e _ => some (x, p, e)
  | _ => none
def unpSub : Stmt → Option (Expr × Expr)
  | .Assign [.Tuple l k p] e _ => (match e with | .Tuple .. => none | _ => some (.Tuple l k p, e))
  | _ => none
def exSub : Stmt → Option Expr
  | .Expr e _ => some e
  | _ => none
def retSub : Stmt → Option Expr
  | .Return (some e) _ => some e
  | _ => none
def retNSub : Stmt → Bool
  | .Return none _ => true
  | _ => false
def ifSub : Stmt → Option (Expr × List Stmt × List Stmt)
  | .If c a b _ => some (c, a, b)
  | _ => none
def forSub : Stmt → Option (Expr × Expr × List Stmt)
  | .For tg iter b [] _ => some (tg, iter, b)
  | _ => none
def whSub : Stmt → Option (Expr × List Stmt)
  | .While c b [] _ => some (c, b)
  | _ => none
def passSub : Stmt → Bool
  | .Pass _ => true
  | .Expr (.Constant (.str _) _ _) _ => true
  | _ => false
def brkSub : Stmt → Bool
  | .Break _ => true
  | _ => false
def cntSub : Stmt → Bool
  | .Continue _ => true
  | _ => false
def raiseSub : Stmt → Option Str
  | .Raise (some (.Call (.Name x _) [] [] _)) none _ => some x
  | _ => none
/-- x.m(es): the name, the method, the arguments -/
def methSub : Stmt → Option (Str × Str × List Expr)
  | .Expr (.Call (.Attribute (.Name x _) m apos) l [] cpos) _ => if apos.endLine == cpos.line then some (x, m, l) else none
  | _ => none
/-- x[j] = e -/
def setSub : Stmt → Option (Str × Expr × Expr)
  | .Assign [.Subscript (.Name x _) j _] e _ => if ns j then some (x, j, e) else none
  | _ => none
def augSub : Stmt → Option (Str × Pos × Operator × Expr)
  | .AugAssign (.Name x p) op e _ => some (x, p, op, e)
  | _ => none
def augO : Op → Operator → Bool
  | .add, .Add => true
  | .sub, .Sub => true
  | _, _ => false
/-- try: body, except x as n: return e -/
def trySub : Stmt → Option (List Stmt × Str × Str × Expr)
  | .Try body [.ExceptHandler (some (.Name x _)) (some n) [.Return (some e) _] _] [] [] _ => some (body, x, n, e)
  | _ => none
/-- try: body, except x: return e -/
def tryRSub : Stmt → Option (List Stmt × Str × Expr)
  | .Try body [.ExceptHandler (some (.Name x _)) none [.Return (some e) _] _] [] [] _ => some (body, x, e)
  | _ => none
def klsCall (T : Tab) (sc : Scope) (f : Nat) (n : Str) : Expr → Bool
  | .Call (.Name g _) [.Name m _] [] _ => decide (m = n) && T.kls.contains (f, g) && glC sc g && dbg g
  | _ => false
/-- what is told of the exception -/
def tagC (T : Tab) (sc : Scope) (y : Str) (f : Nat) (n : Str) : Expr → Bool
  | .Tuple [.Constant (.str x) _ _, e2] _ _ => decide (x = y) && klsCall T sc f n e2
  | _ => false
def telC (T : Tab) (sc : Scope) (tg : Option Str) (f : Nat) (n : Str) : Expr → Bool := match tg with
  | none => klsCall T sc f n
  | some y => tagC T sc y f n
/-- a literal -/
def litC : D → Expr → Bool
  | .none, .Constant .none _ _ => true
  | .str x, .Constant (.str y) _ _ => decide (x = y)
  | .tuple [.str x], .Tuple [.Constant (.str y) _ _] _ _ => decide (x = y)
  | _, _ => false
def unS : List Stmt → Option (Stmt × List Stmt)
  | e :: l => some (e, l)
  | [] => none
def lineC (sc : Scope) (x : Str) (p : Pos) : Expr → Bool
  | .ListComp _ _ scope pos => decide (sc.names.lookup x = some .local) && (p.line == pos.line) && !(scope.names.any fun (n, k) => n == x && (k == .local || k == .cell))
  | _ => false
def isLc : E → Bool
  | .lc .. | .lcIf .. | .lc2 .. => true
  | _ => false
def nmC (N : List Str) (sc : Scope) (i : Nat) (x : Str) : Bool := decide (N[i]? = some x) && visC sc x && dbg x
section
variable (T : Tab) (nf : Nat) (N : List Str) (sc : Scope)
def allS : Str → Bool := fun _ => true
def okMut : Mu → Nat → Es → Stmt → Bool
  | .app, i, es, st => match methSub st with
    | some q => decide (q.2.1 = "append") && decide (q.2.2.length = 1) && nmC N sc i q.1 && okEs T nf N es sc allS q.2.2
    | none => false
  | .ins, i, es, st => match methSub st with
    | some q => decide (q.2.1 = "insert") && decide (q.2.2.length = 2) && nmC N sc i q.1 && okEs T nf N es sc allS q.2.2
    | none => false
  | .setI, i, es, st => match setSub st with
    | some q => nmC N sc i q.1 && okEs T nf N es sc allS [q.2.2, q.2.1]
    | none => false
  | _, _, _, _ => false
mutual
def okS : S → Stmt → Bool
  | .asg i e, st => match asgSub st with
    | some q => tgC N sc allS i (.Name q.1 q.2.1) && okE T nf N e sc allS q.2.2 && (notComp q.2.2 || decide (sc.names.lookup q.1 = some .cell) || (lineC sc q.1 q.2.1 q.2.2 && isLc e))
    | none => false
  | .asgB i e, st => match asgSub st with
    | some q => tgC N sc allS i (.Name q.1 q.2.1) && okE T nf N e sc allS q.2.2 && notComp q.2.2
    | none => false
  | .unp t e, st => match unpSub st with
    | some q => okT N sc allS t q.1 && okE T nf N e sc allS q.2
    | none => false
  | .par _ _, _ => false
  | .ex e, st => match exSub st with
    | some q => notComp q && okE T nf N e sc allS q
    | none => false
  | .ret e, st => match retSub st with
    | some q => okE T nf N e sc allS q
    | none => false
  | .mv i, st => match retSub st with
    | some q => nameC N sc i q
    | none => false
  | .retN, st => retNSub st
  | .ite c a b, st => match ifSub st with
    | some q => okE T nf N c sc allS q.1 && okSs a q.2.1 && okSs b q.2.2
    | none => false
  | .for_ t it b, st => match forSub st with
    | some q => nset q.2.1 && okT N sc allS t q.1 && okI T nf N it sc allS q.1 q.2.1 && okSs b q.2.2
    | none => false
  | .while_ c b, st => match whSub st with
    | some q => okE T nf N c sc allS q.1 && okSs b q.2
    | none => false
  | .brk, st => brkSub st
  | .cnt, st => cntSub st
  | .pass, st => passSub st
  | .raise c, st => match raiseSub st with
    | some x => T.exs.contains (x, c) && glC sc x && dbg x
    | none => false
  | .aug i o e, st => match augSub st with
    | some q => tgC N sc allS i (.Name q.1 q.2.1) && augO o q.2.2.1 && okE T nf N e sc allS q.2.2.2
    | none => false
  | .mut m i es, st => okMut T nf N sc m i es st
  | .popT _ _, _ => false
  | .tryC b i tg f nx, st => match trySub st with
    | some q => T.exs.contains (q.2.1, 0) && glC sc q.2.1 && dbg q.2.1 && decide (N[i]? = some q.2.2.1) && decide (sc.names.lookup q.2.2.1 = some .local) && dbg q.2.2.1 && decide (nx = T.nx) && decide (0 < nx) && telC T sc tg f q.2.2.1 q.2.2.2 && okSs b q.1
    | none => false
  | .tryR b c nx d, st => match tryRSub st with
    | some q => T.exs.contains (q.2.1, c) && glC sc q.2.1 && dbg q.2.1 && decide (nx = T.nx) && decide (c < nx) && litC d q.2.2 && okSs b q.1
    | none => false
def okSs : Ss → List Stmt → Bool
  | .nil, l => l.isEmpty
  | .never, _ => true
  | .cons s ss, l => match unS l with
    | some q => okS s q.1 && okSs ss q.2
    | none => false
end
end
section
variable {T : Tab} {Fs : Nat → Fn} {cl : Nat → Addr} {fc : Fc} {wE : Wish}
variable {nf : Nat} {N : List Str} {sc : Scope} {X : Cx}
theorem asgSub_eq {st : Stmt} {q : Str × Pos × Expr} (h : asgSub st = some q) : ∃ p, st = .Assign [.Name q.1 q.2.1] q.2.2 p := by
  unfold asgSub at h; split at h <;> cases h; exact ⟨_, rfl⟩
theorem unpSub_eq {st : Stmt} {q : Expr × Expr} (h : unpSub st = some q) : ∃ l k p p2, st = .Assign [q.1] q.2 p2 ∧ q.1 = .Tuple l k p ∧ ∀ env, swappedStores [q.1] q.2 env = pure none := by
  unfold unpSub at h
  split at h
  · next l k p e p2 =>
    cases e <;> cases h <;> exact ⟨_, _, _, _, rfl, rfl, fun _ => rfl⟩
  · cases h
theorem exSub_eq {st : Stmt} {q : Expr} (h : exSub st = some q) : ∃ p, st = .Expr q p := by
  unfold exSub at h; split at h <;> cases h; exact ⟨_, rfl⟩
theorem retSub_eq {st : Stmt} {q : Expr} (h : retSub st = some q) : ∃ p, st = .Return (some q) p := by
  unfold retSub at h; split at h <;> cases h; exact ⟨_, rfl⟩
theorem retNSub_eq {st : Stmt} (h : retNSub st = true) : ∃ p, st = .Return none p := by
  unfold retNSub at h; split at h <;> cases h; exact ⟨_, rfl⟩
theorem ifSub_eq {st : Stmt} {q : Expr × List Stmt × List Stmt} (h : ifSub st = some q) : ∃ p, st = .If q.1 q.2.1 q.2.2 p := by
  unfold ifSub at h; split at h <;> cases h; exact ⟨_, rfl⟩
theorem forSub_eq {st : Stmt} {q : Expr × Expr × List Stmt} (h : forSub st = some q) : ∃ p, st = .For q.1 q.2.1 q.2.2 [] p := by
  unfold forSub at h; split at h <;> cases h; exact ⟨_, rfl⟩
theorem whSub_eq {st : Stmt} {q : Expr × List Stmt} (h : whSub st = some q) : ∃ p, st = .While q.1 q.2 [] p := by
  unfold whSub at h; split at h <;> cases h; exact ⟨_, rfl⟩
theorem raiseSub_eq {st : Stmt} {x : Str} (h : raiseSub st = some x) : ∃ p p2 p3, st = .Raise (some (.Call (.Name x p) [] [] p2)) none p3 := by
  unfold raiseSub at h; split at h <;> cases h; exact ⟨_, _, _, rfl⟩
theorem methSub_eq {st : Stmt} {q : Str × Str × List Expr} (h : methSub st = some q) : ∃ p apos cpos pos, st = .Expr (.Call (.Attribute (.Name q.1 p) q.2.1 apos) q.2.2 [] cpos) pos ∧ (apos.endLine == cpos.line) = true := by
  unfold methSub at h
  split at h
  · split at h
    · next z => cases h; exact ⟨_, _, _, _, rfl, z⟩
    · cases h
  · cases h
theorem setSub_eq {st : Stmt} {q : Str × Expr × Expr} (h : setSub st = some q) : ∃ p p2 p3, st = .Assign [.Subscript (.Name q.1 p) q.2.1 p2] q.2.2 p3 ∧ ns q.2.1 = true := by
  unfold setSub at h
  split at h
  · split at h
    · next z => cases h; exact ⟨_, _, _, rfl, z⟩
    · cases h
  · cases h
theorem augSub_eq {st : Stmt} {q : Str × Pos × Operator × Expr} (h : augSub st = some q) : ∃ p, st = .AugAssign (.Name q.1 q.2.1) q.2.2.1 q.2.2.2 p := by
  unfold augSub at h; split at h <;> cases h; exact ⟨_, rfl⟩
theorem aug_ok {o : Op} {op : Operator} {i : Nat} {x : Str} {e : Expr} {A : E} {p pos : Pos} (h : augO o op = true) (he : PE X e (tO fc wE (evE Fs A))) (hN : X.N.Nodup) (hi : X.N[i]? = some x) (hx : Loc X.env.scope x) (hf : X.fn x = true ∨ X.env.scope.names.lookup x = some .local) :
    PS X (.AugAssign (.Name x p) op e pos) (tS fc wE (evS Fs (.aug i o A))) := by
  unfold augO at h
  split at h
  · exact ss_aug he hN hi hx hf ip_add fun a b z e => by change some (PyData.int (a + b)) = some (.int z) at e; cases e; rfl
  · exact ss_aug he hN hi hx hf ip_sub fun a b z e => by change some (PyData.int (a - b)) = some (.int z) at e; cases e; rfl
  · cases h
theorem trySub_eq {st : Stmt} {q : List Stmt × Str × Str × Expr} (h : trySub st = some q) : ∃ np rp pos' pos, st = .Try q.1 [.ExceptHandler (some (.Name q.2.1 np)) (some q.2.2.1) [.Return (some q.2.2.2) rp] pos'] [] [] pos := by
  unfold trySub at h; split at h <;> cases h; exact ⟨_, _, _, _, rfl⟩
theorem tryRSub_eq {st : Stmt} {q : List Stmt × Str × Expr} (h : tryRSub st = some q) : ∃ np rp pos' pos, st = .Try q.1 [.ExceptHandler (some (.Name q.2.1 np)) none [.Return (some q.2.2) rp] pos'] [] [] pos := by
  unfold tryRSub at h; split at h <;> cases h; exact ⟨_, _, _, _, rfl⟩
theorem unS_eq {l : List Stmt} {q : Stmt × List Stmt} (h : unS l = some q) : l = q.1 :: q.2 := by
  unfold unS at h; split at h <;> cases h; rfl
theorem assign_sub {x : Str} {p p2 : Pos} {j : Expr} (h : ns j = true) (env : Env) (v : Value) : assign (.Subscript (.Name x p) j p2) env v = (do
      let ov ← holding [v] (eval (.Name x p) env)
      let iv ← holding [v, ov] (eval j env)
      standAt p2
      holding [v, ov, iv] (setItem ov iv v)
      release [v, ov, iv] []) := by
  cases j <;> first | rfl | cases h
/-- a def's body's context -/
structure GoodS (T : Tab) (Fs : Nat → Fn) (cl : Nat → Addr) (fc : Fc) (wE : Wish) (nf : Nat) (N : List Str) (sc : Scope) (X : Cx) : Prop where
  g : Good T Fs cl fc wE nf N sc allS X
  pass : PassesOwn (model X.prog X.w) X.A X.env X.xe
  kind : sc.kind = .function
  stk : X.stack = X.env :: X.outer
  frm : X.env.frame = some X.env.locals
theorem tgC_ok (g : Good T Fs cl fc wE nf N sc allS X) {i : Nat} {x : Str} {p : Pos} (h : tgC N sc allS i (.Name x p) = true) : X.N[i]? = some x ∧ Loc X.env.scope x ∧ (X.fn x = true ∨ X.env.scope.names.lookup x = some .local) := by
  unfold tgC at h
  simp only [Bool.and_eq_true, Bool.or_eq_true, decide_eq_true_eq] at h
  obtain ⟨h1, h2⟩ := h
  refine ⟨by rw [g.N]; exact h1, ?_, .inl (g.so x rfl)⟩
  rw [g.sc]
  rcases h2 with h2 | h2
  · exact .inl h2
  · exact .inr h2.1
theorem nmC_ok (g : Good T Fs cl fc wE nf N sc allS X) {i : Nat} {x : Str} (h : nmC N sc i x = true) : X.N[i]? = some x ∧ Vis X.env.scope x ∧ (x == ("__debug__" : Str)) = false ∧ (x == ("__classdict__" : Str)) = false := by
  unfold nmC at h
  simp only [Bool.and_eq_true, decide_eq_true_eq] at h
  obtain ⟨⟨h1, h2⟩, h3⟩ := h
  obtain ⟨a, b, _⟩ := dbg_ok h3
  exact ⟨by rw [g.N]; exact h1, by rw [g.sc]; exact vis_ok h2, a, b⟩
theorem okMut_ok (g : Good T Fs cl fc wE nf N sc allS X) {m : Mu} {i : Nat} {es : Es} {st : Stmt} (h : okMut T nf N sc m i es st = true) : PS X st (tS fc wE (evS Fs (.mut m i es))) := by
  cases m <;> first | (exfalso; simp [okMut] at h; done) | skip
  case app =>
    simp only [okMut] at h
    split at h
    · next q hq =>
      obtain ⟨p, apos, cpos, pos, rfl, hl⟩ := methSub_eq hq
      simp only [Bool.and_eq_true, decide_eq_true_eq] at h
      obtain ⟨⟨⟨h1, h2⟩, h3⟩, h4⟩ := h
      obtain ⟨a, b, c, d⟩ := nmC_ok g h3
      have p := okEs_ok es sc allS X wE _ g h4
      obtain ⟨x, m, l⟩ := q
      simp only at h1 h2 h3 h4 p hl a b c d ⊢
      subst h1
      match l, h2 with
      | [e], _ =>
        have hns := p.ns
        simp only [List.all_cons, List.all_nil, Bool.and_true] at hns
        exact ss_append a b c d p.pa hns hl
    · cases h
  case ins =>
    simp only [okMut] at h
    split at h
    · next q hq =>
      obtain ⟨p, apos, cpos, pos, rfl, hl⟩ := methSub_eq hq
      simp only [Bool.and_eq_true, decide_eq_true_eq] at h
      obtain ⟨⟨⟨h1, h2⟩, h3⟩, h4⟩ := h
      obtain ⟨a, b, c, d⟩ := nmC_ok g h3
      have p := okEs_ok es sc allS X wE _ g h4
      obtain ⟨x, m, l⟩ := q
      simp only at h1 h2 h3 h4 p hl a b c d ⊢
      subst h1
      match l, h2 with
      | [e, e2], _ =>
        have hns := p.ns
        simp only [List.all_cons, List.all_nil, Bool.and_true, Bool.and_eq_true] at hns
        exact ss_insert a b c d p.pa hns.1 hns.2 hl
    · cases h
  case setI =>
    simp only [okMut] at h
    split at h
    · next q hq =>
      obtain ⟨p, p2, p3, rfl, hn⟩ := setSub_eq hq
      simp only [Bool.and_eq_true] at h
      obtain ⟨a, b, c, d⟩ := nmC_ok g h.1
      have p := okEs_ok es sc allS X wE _ g h.2
      cases p with
      | cons pa na t => cases t with
        | cons pb nb t =>
          cases t
          exact ss_setI a b c d pa pb (assign_sub hn _)
    · cases h
/-- the context of a try's body -/
theorem GoodS.tr (G : GoodS T Fs cl fc wE nf N sc X) {W : WX} {pn : List (Addr × Obj)} {xe : Value → Shared → Prop} (tk : Takes (X.tr pn xe) W) (hp : PassesOwn (model X.prog X.w) X.A X.env xe) :
    GoodS T Fs cl fc (fun c σ H => W (.ref (cl c)) none σ H) nf N sc (X.tr pn xe) where
  kind := G.kind
  stk := G.stk
  frm := G.frm
  pass := hp
  g := {
    N := G.g.N
    so := G.g.so
    nd := G.g.nd
    sc := G.g.sc
    calm := G.g.calm
    w := G.g.w
    room := G.g.room
    gd := G.g.gd
    tk := tk.imp fun c σ H ⟨n, e1, _, h⟩ => by rw [e1]; exact h
    blt := G.g.blt
    cst := G.g.cst
    exs := fun p hp => ⟨(G.g.exs p hp).q, (G.g.exs p hp).m, (G.g.exs p hp).k, (G.g.exs p hp).r⟩
    fn := fun f x ps hf e => ⟨(G.g.fn f x ps hf e).ex⟩
    kls := fun p hp => ⟨(G.g.kls p hp).ex⟩
    exm := G.g.exm }
theorem ExS.body {wE' : Wish} {z : Option SR} {ρ : Rho} {W : Wd} {σ : L2.St} {H : Hp} {D : Ends} (h : match z with
    | some (.exc c r') => ∀ σ' W' H', StpS ρ W σ H W' σ' H' → R fc r' W' σ' H' → wE' c σ' H'
    | z => ExS fc wE D ρ W σ H z) : ExS fc wE' D ρ W σ H z := by
  cases z with
  | none => exact h
  | some y => cases y <;> exact h
/-- try: body, except x as n: return what is told of n -/
theorem ss_tryC (G : GoodS T Fs cl fc wE nf N sc X) {b : Ss} {body : List Stmt} {i f nx : Nat} {tg : Option Str} {x n : Str} {e : Expr} {np rp pos' pos : Pos} (h1 : (x, 0) ∈ T.exs) (h2 : glC sc x = true) (h3 : dbg x = true) (h4 : N[i]? = some n) (h5 : sc.names.lookup n = some .local) (h6 : dbg n = true)
    (h7 : nx = T.nx) (h8 : 0 < nx) (h9 : telC T sc tg f n e = true) (hb : ∀ (wE' : Wish) (pn : List (Addr × Obj)) (xe : Value → Shared → Prop), GoodS T Fs cl fc wE' nf N sc (X.tr pn xe) → PSs (X.tr pn xe) body (tS fc wE' (evSs Fs b))) :
    PS X (.Try body [.ExceptHandler (some (.Name x np)) (some n) [.Return (some e) rp] pos'] [] [] pos) (tS fc wE (evS Fs (.tryC b i tg f nx))) := by
  have g := G.g
  have hN : X.N[i]? = some n := by rw [g.N]; exact h4
  have hln : X.env.kindOf n = some .local := by show X.env.scope.names.lookup n = _; rw [g.sc]; exact h5
  have hx : Names X x (.ref (cl 0)) := ⟨g.gl h2, (dbg_ok h3).1, .inl (g.exs (x, 0) h1).m⟩
  obtain ⟨d1, d2, _⟩ := dbg_ok h6
  refine ⟨fun pins s σ H D I h => (ps_tryE (tb := fun W => tS fc (fun c σ H => W (.ref (cl c)) none σ H) (evSs Fs b))
    (wish := fun D cls d σ' H' => ∃ c z, cls = .ref (cl c) ∧ c < T.nx ∧ (Fs f).run [.exc c] [] = some (.ret (.dat (.str z)) []) ∧ ∀ u H2, Same H' H2 → Den fc.w (fun _ => False) H2 u (tagged z tg) → D.rt u H2)
    G.stk G.frm (fun W pn xe tk hp => hb _ pn xe (G.tr tk hp)) ?_).run pins s σ H D I ?_⟩
  · rintro pins D a B sI σ H cls t s' ok air fl ⟨c, z, rfl, hc, hrun, k⟩
    have hm := g.exm c 0 hc (by omega)
    refine hand_as (i := i) G.stk G.frm g.nd hN hln hx ok air fl hm (fun _ oe hz => ?_) fun q => by cases q
    have gl' : ∀ {y : Str}, glC sc y = true → Gl (X.suite a ((a, oe) :: (X.pn ++ pins))) y := fun h => g.gl h
    have hrm : L2H.RoomH nf (X.suite a ((a, oe) :: (X.pn ++ pins))).A := ⟨g.room.dp, g.room.un⟩
    have kc : ∀ {e2 : Expr}, klsCall T sc f n e2 = true → PE (X.suite a ((a, oe) :: (X.pn ++ pins))) e2 (fun σ H Q => σ[i]? = some (some (.ref a)) ∧ H t = some (.tup []) ∧ ∀ H', Same H H' → Q (.str z) H') ∧ ns e2 = true := fun {e2} h => by
      unfold klsCall at h
      split at h
      · simp only [Bool.and_eq_true, decide_eq_true_eq] at h
        obtain ⟨⟨⟨rfl, q2⟩, q3⟩, q4⟩ := h
        exact ⟨pe_kls (F := Fs f) ⟨(g.kls _ (by simpa using q2)).ex⟩ hrm (by simp) hz hrun (gl' q3) (dbg_ok q4).1 hN (.inl hln) d1 d2, rfl⟩
      · cases h
    have hσ : (σ.set i (some (V.ref a)))[i]? = some (some (.ref a)) := by
      have : i < σ.length := by
        rw [air.inv.len]
        exact (List.getElem?_eq_some_iff.mp hN).1
      simp [this]
    cases tg with
    | none =>
      change klsCall T sc f n e = true at h9
      obtain ⟨pe, _⟩ := kc h9
      refine ⟨_, pss_one (ps_ret pe), hσ, air.tp, fun H' sm => ?_⟩
      exact k _ H' sm (.str z)
    | some y =>
      change tagC T sc y f n e = true at h9
      unfold tagC at h9
      split at h9
      · next x' j p e2 kk p2 =>
        simp only [Bool.and_eq_true, decide_eq_true_eq] at h9
        obtain ⟨rfl, h9⟩ := h9
        obtain ⟨pe, hn⟩ := kc h9
        refine ⟨_, pss_one (ps_ret (pe_tup (pa_cons pe_str (pa_cons pe pa_nil (ns_star hn _ _))))), hσ, air.tp, fun H' sm => ?_⟩
        refine ⟨by show 2 ≤ sizeLine; rw [sizeLine_eq]; decide, fun p hp => ?_⟩
        exact k _ _ (fun b o e => same_upd hp b o (sm b o e)) (.tup upd_same (.cons (.str _) (.cons (.str _) .nil)))
      · cases h9
  · obtain ⟨ρ, W, r, h⟩ := h
    refine ⟨ρ, W, r, ?_⟩
    rw [evS] at h
    refine ExS.body (wE := wE) ?_
    cases ev : evSs Fs b ρ with
    | none => simp only [ev] at h; exact h
    | some y =>
      cases y with
      | exc c r' =>
        simp only [ev] at h
        intro σ' W' H' st r2
        unfold told at h
        split at h
        · next z hz =>
          split at h
          · next hc =>
            refine ⟨c, z, rfl, by omega, hz, fun u H2 sm dn => ?_⟩
            obtain ⟨r3, _⟩ := r2.same sm
            have dn' : Den fc.w W'.F H2 u (tagged z tg) := dn.kp ⟨fun _ z => z.elim, fun _ _ z => z.elim, fun _ _ z => z⟩
            exact h u _ H2 (r3.ret (A2 := []) ⟨rfl, dn'⟩ (by simp) (by simp))
          · exact h.elim
        · exact h.elim
      | nx _ => simp only [ev] at h; exact h
      | ret _ _ => simp only [ev] at h; exact h
      | brk _ => simp only [ev] at h; exact h
      | cnt _ => simp only [ev] at h; exact h
/-- a literal's value -/
theorem lit_ok {X : Cx} {d : Mp.D} {e : Expr} (h : litC d e = true) : ∃ te, PE X e te ∧ ∀ (w : World) σ H (Q : VK), (∀ u H', Same H H' → Den w (fun _ => False) H' u d → Q u H') → te σ H Q := by
  unfold litC at h
  split at h
  · exact ⟨_, pe_non, fun w σ H Q k => k _ H (Same.refl H) .non⟩
  · have := of_decide_eq_true h; subst this; exact ⟨_, pe_str, fun w σ H Q k => k _ H (Same.refl H) (.str _)⟩
  · have := of_decide_eq_true h; subst this
    exact ⟨_, pe_tup (pa_cons pe_str pa_nil), fun w σ H Q k => ⟨by show 1 ≤ sizeLine; rw [sizeLine_eq]; decide, fun p hp => k _ _ (same_upd hp) (.tup upd_same (.cons (.str _) .nil))⟩⟩
  · cases h
/-- try: body, except x: return a literal -/
theorem ss_tryR (G : GoodS T Fs cl fc wE nf N sc X) {b : Ss} {body : List Stmt} {c nx : Nat} {d : Mp.D} {x : Str} {e : Expr} {np rp pos' pos : Pos} (h1 : (x, c) ∈ T.exs) (h2 : glC sc x = true) (h3 : dbg x = true)
    (h7 : nx = T.nx) (h8 : c < nx) (h9 : litC d e = true) (hb : ∀ (wE' : Wish) (pn : List (Addr × Obj)) (xe : Value → Shared → Prop), GoodS T Fs cl fc wE' nf N sc (X.tr pn xe) → PSs (X.tr pn xe) body (tS fc wE' (evSs Fs b))) :
    PS X (.Try body [.ExceptHandler (some (.Name x np)) none [.Return (some e) rp] pos'] [] [] pos) (tS fc wE (evS Fs (.tryR b c nx d))) := by
  have g := G.g
  have hx : Names X x (.ref (cl c)) := ⟨g.gl h2, (dbg_ok h3).1, .inl (g.exs (x, c) h1).m⟩
  refine ⟨fun pins s σ H D I h => (ps_tryE (tb := fun W => tS fc (fun c σ H => W (.ref (cl c)) none σ H) (evSs Fs b))
    (wish := fun D cls _ σ' H' => ∃ c', cls = .ref (cl c') ∧ c' < T.nx ∧ c ≠ 0 ∧ if c' = c then ∀ u H2, Same H' H2 → Den fc.w (fun _ => False) H2 u d → D.rt u H2 else wE c' σ' H')
    G.stk G.frm (fun W pn xe tk hp => hb _ pn xe (G.tr tk hp)) ?_).run pins s σ H D I ?_⟩
  · rintro pins D a B sI σ H cls t s' ok air fl ⟨c', rfl, hc, h0, k⟩
    have hm := g.exm c' c hc (by omega)
    refine hand_only G.stk G.frm hx ok air fl hm (fun hy oe hz => ?_) fun q => ?_
    · have e0 : c' = c := by simpa [h0] using hy
      subst e0
      rw [if_pos rfl] at k
      obtain ⟨te, pe, hte⟩ := lit_ok (X := X.suite a ((a, oe) :: (X.pn ++ pins))) h9
      exact ⟨_, pss_one (ps_ret pe), hte fc.w _ _ _ k⟩
    · have e0 : c' ≠ c := by simpa [h0] using q
      rw [if_neg e0] at k
      exact hand_nil G.stk G.frm g.tk air fl ⟨c', rfl, rfl, k⟩
  · obtain ⟨ρ, W, r, h⟩ := h
    refine ⟨ρ, W, r, ?_⟩
    rw [evS] at h
    refine ExS.body (wE := wE) ?_
    cases ev : evSs Fs b ρ with
    | none => simp only [ev] at h; exact h
    | some y =>
      cases y with
      | exc c' r' =>
        simp only [ev] at h
        intro σ' W' H' st r2
        split at h
        · next hc =>
          refine ⟨c', rfl, by omega, hc.2, ?_⟩
          split at h
          · next e0 =>
            rw [if_pos e0]
            intro u H2 sm dn
            obtain ⟨r3, _⟩ := r2.same sm
            have dn' : Den fc.w W'.F H2 u d := dn.kp ⟨fun _ z => z.elim, fun _ _ z => z.elim, fun _ _ z => z⟩
            exact h u _ H2 (r3.ret (A2 := []) ⟨rfl, dn'⟩ (by simp) (by simp))
          · next e0 =>
            rw [if_neg e0]
            exact h σ' W' H' st r2
        · exact h.elim
      | nx _ => simp only [ev] at h; exact h
      | ret _ _ => simp only [ev] at h; exact h
      | brk _ => simp only [ev] at h; exact h
      | cnt _ => simp only [ev] at h; exact h
mutual
theorem okS_ok : ∀ (A : S) (X : Cx) (wE : Wish) (st : Stmt), GoodS T Fs cl fc wE nf N sc X → okS T nf N sc A st = true → PS X st (tS fc wE (evS Fs A))
  | .asg i e, X, wE, st, G, h => by
    have g := G.g
    rw [okS] at h
    split at h
    · next q hq =>
      obtain ⟨p, rfl⟩ := asgSub_eq hq
      simp only [Bool.and_eq_true, Bool.or_eq_true, decide_eq_true_eq] at h
      obtain ⟨⟨h1, h2⟩, h3⟩ := h
      obtain ⟨a, b, c⟩ := tgC_ok g h1
      have k := okE_ok e sc allS X wE _ g h2
      rcases h3 with (h3 | h3) | h3
      · exact ss_asg k.v g.nd a b c (nsw' h3 _ _ _)
      · exact ss_asg k.v g.nd a b c (nsw_cell _ (by show X.env.scope.names.lookup q.1 = _; rw [g.sc]; exact h3))
      · obtain ⟨x, px, ex⟩ := q
        obtain ⟨h3, h5⟩ := h3
        simp only at h1 h2 h3 a b c ⊢
        unfold lineC at h3
        split at h3
        · next elt gs scope pos =>
          simp only [Bool.and_eq_true, decide_eq_true_eq, Bool.not_eq_true'] at h3
          obtain ⟨⟨l1, l2⟩, l3⟩ := h3
          have hk : X.env.scope.kind = .function := by rw [g.sc]; exact G.kind
          have hx : X.env.scope.names.lookup x = some .local := by rw [g.sc]; exact l1
          cases e with
          | lc own A t it =>
            rw [okE] at h2
            split at h2
            · next q2 hq2 =>
              obtain ⟨p', he⟩ := lcSub_eq hq2
              cases he
              simp only [Bool.and_eq_true] at h2
              obtain ⟨⟨⟨⟨m1, m2⟩, m3⟩, m4⟩, m5⟩ := h2
              have v := ss_asgLc (A := A) (t := t) (it := it) (pos2 := p) g (okI_ok it sc allS X wE _ _ g m5) (blkOk_by m1) (fun X' g' => okT_ok g' t _ m3) (fun X' g' => (okE_ok A _ _ X' wNo _ g' m4).e) m2 a hx hk l2 l3
              rw [ownN_eq] at v
              exact v
            · cases h2
          | lcIf own A t it C =>
            rw [okE] at h2
            split at h2
            · next q2 hq2 =>
              obtain ⟨p', he⟩ := lcIfSub_eq hq2
              cases he
              simp only [Bool.and_eq_true] at h2
              obtain ⟨⟨⟨⟨⟨m1, m2⟩, m3⟩, m4⟩, m6⟩, m5⟩ := h2
              have v := ss_asgLcIf (A := A) (B := C) (t := t) (it := it) (pos2 := p) g (okI_ok it sc allS X wE _ _ g m5) (blkOk_by m1) (fun X' g' => okT_ok g' t _ m3) (fun X' g' => (okE_ok A _ _ X' wNo _ g' m4).e) (fun X' g' => (okE_ok C _ _ X' wNo _ g' m6).t) m2 a hx hk l2 l3
              rw [ownN_eq] at v
              exact v
            · cases h2
          | lc2 own A t it t2 it2 own2 =>
            rw [okE] at h2
            split at h2
            · next q2 hq2 =>
              obtain ⟨p', he⟩ := lc2Sub_eq hq2
              cases he
              simp only [Bool.and_eq_true] at h2
              obtain ⟨⟨⟨⟨⟨⟨⟨⟨m1, m2⟩, m3⟩, m4⟩, m5⟩, m6⟩, m7⟩, m8⟩, m9⟩ := h2
              have v := ss_asgLc2 (A := A) (t := t) (it := it) (t2 := t2) (it2 := it2) (own2 := own2) (pos2 := p) g (okI_ok it sc allS X wE _ _ g m9) (blkOk_by m1) (by rw [ownN_eq]; exact own_sub m4) (fun X' g' => okT_ok g' t _ m5) (fun X' g' => okI_ok it2 _ _ X' wNo _ _ g' m8) (fun X' g' => okT_ok g' t2 _ m6) (fun X' g' => (okE_ok A _ _ X' wNo _ g' m7).e) m2 m3 a hx hk l2 l3
              rw [ownN_eq] at v
              exact v
            · cases h2
          | _ => simp [isLc] at h5
        · cases h3
    · cases h
  | .asgB i e, X, wE, st, G, h => by
    have g := G.g
    rw [okS] at h
    split at h
    · next q hq =>
      obtain ⟨p, rfl⟩ := asgSub_eq hq
      simp only [Bool.and_eq_true] at h
      obtain ⟨⟨h1, h2⟩, h3⟩ := h
      obtain ⟨a, b, c⟩ := tgC_ok g h1
      exact ss_asgB (okE_ok e sc allS X wE _ g h2).v g.nd a b c (nsw' h3 _ _ _)
    · cases h
  | .unp t e, X, wE, st, G, h => by
    have g := G.g
    rw [okS] at h
    split at h
    · next q hq =>
      obtain ⟨l, k, p, p2, rfl, e1, hw⟩ := unpSub_eq hq
      simp only [Bool.and_eq_true] at h
      refine ss_unp (okE_ok e sc allS X wE _ g h.2).e (okT_ok g t _ h.1) ?_ (hw _) (by rw [e1]; rfl)
      rw [e1]
      show swapsWith q.2 (some (.Tuple l k p)) p2.line X.env = _
      cases q.2 <;> rfl
    · cases h
  | .par _ _, X, wE, st, G, h => by rw [okS] at h; cases h
  | .ex e, X, wE, st, G, h => by
    have g := G.g
    rw [okS] at h
    split at h
    · next q hq =>
      obtain ⟨p, rfl⟩ := exSub_eq hq
      simp only [Bool.and_eq_true] at h
      exact ss_ex (okE_ok e sc allS X wE _ g h.2).e (nsw' h.1 _ _ _)
    · cases h
  | .ret e, X, wE, st, G, h => by
    have g := G.g
    rw [okS] at h
    split at h
    · next q hq =>
      obtain ⟨p, rfl⟩ := retSub_eq hq
      exact ss_ret (okE_ok e sc allS X wE _ g h).v
    · cases h
  | .mv i, X, wE, st, G, h => by
    have g := G.g
    rw [okS] at h
    split at h
    · next q hq =>
      obtain ⟨p, rfl⟩ := retSub_eq hq
      obtain ⟨x, p2, rfl, h1, h2, h3, h4⟩ := nameC_ok g h
      exact ss_mv h1 h2 h3 h4
    · cases h
  | .retN, X, wE, st, G, h => by
    rw [okS] at h
    obtain ⟨p, rfl⟩ := retNSub_eq h
    exact ss_retN
  | .ite c a b, X, wE, st, G, h => by
    have g := G.g
    rw [okS] at h
    split at h
    · next q hq =>
      obtain ⟨p, rfl⟩ := ifSub_eq hq
      simp only [Bool.and_eq_true] at h
      exact ss_if (okE_ok c sc allS X wE _ g h.1.1).t (okSs_ok a X wE _ G h.1.2) (okSs_ok b X wE _ G h.2)
    · cases h
  | .for_ t it b, X, wE, st, G, h => by
    have g := G.g
    rw [okS] at h
    split at h
    · next q hq =>
      obtain ⟨p, rfl⟩ := forSub_eq hq
      simp only [Bool.and_eq_true] at h
      exact ss_for G.pass g.calm (okI_ok it sc allS X wE _ _ g h.1.2) (okT_ok g t _ h.1.1.2) (okSs_ok b X wE _ G h.2) h.1.1.1
    · cases h
  | .while_ c b, X, wE, st, G, h => by
    have g := G.g
    rw [okS] at h
    split at h
    · next q hq =>
      obtain ⟨p, rfl⟩ := whSub_eq hq
      simp only [Bool.and_eq_true] at h
      exact ss_while G.pass (okE_ok c sc allS X wE _ g h.1).t (okSs_ok b X wE _ G h.2)
    · cases h
  | .brk, X, wE, st, G, h => by
    rw [okS] at h
    unfold brkSub at h
    split at h
    · exact ss_brk
    · cases h
  | .cnt, X, wE, st, G, h => by
    rw [okS] at h
    unfold cntSub at h
    split at h
    · exact ss_cnt
    · cases h
  | .pass, X, wE, st, G, h => by
    rw [okS] at h
    unfold passSub at h
    split at h
    · exact ss_pass
    · exact ss_doc
    · cases h
  | .raise c, X, wE, st, G, h => by
    have g := G.g
    rw [okS] at h
    split at h
    · next x hx =>
      obtain ⟨p, p2, p3, rfl⟩ := raiseSub_eq hx
      simp only [Bool.and_eq_true] at h
      exact ss_raise g.calm g.tk (g.exs (x, c) (by simpa using h.1.1)) (g.gl h.1.2) (dbg_ok h.2).1
    · cases h
  | .aug i o e, X, wE, st, G, h => by
    have g := G.g
    rw [okS] at h
    split at h
    · next q hq =>
      obtain ⟨p, rfl⟩ := augSub_eq hq
      simp only [Bool.and_eq_true] at h
      obtain ⟨⟨h1, h2⟩, h3⟩ := h
      obtain ⟨a, b, c⟩ := tgC_ok g h1
      exact aug_ok h2 (okE_ok e sc allS X wE _ g h3).e g.nd a b c
    · cases h
  | .mut m i es, X, wE, st, G, h => by
    rw [okS] at h
    exact okMut_ok G.g h
  | .popT _ _, X, wE, st, G, h => by rw [okS] at h; cases h
  | .tryC b i tg f nx, X, wE, st, G, h => by
    have g := G.g
    rw [okS] at h
    split at h
    · next q hq =>
      obtain ⟨np, rp, pos', pos, rfl⟩ := trySub_eq hq
      simp only [Bool.and_eq_true, decide_eq_true_eq] at h
      obtain ⟨⟨⟨⟨⟨⟨⟨⟨⟨h1, h2⟩, h3⟩, h4⟩, h5⟩, h6⟩, h7⟩, h8⟩, h9⟩, h10⟩ := h
      exact ss_tryC G (by simpa using h1) h2 h3 h4 h5 h6 h7 h8 h9 fun wE' pn xe G' => okSs_ok b (X.tr pn xe) wE' _ G' h10
    · cases h
  | .tryR b c nx d, X, wE, st, G, h => by
    have g := G.g
    rw [okS] at h
    split at h
    · next q hq =>
      obtain ⟨np, rp, pos', pos, rfl⟩ := tryRSub_eq hq
      simp only [Bool.and_eq_true, decide_eq_true_eq] at h
      obtain ⟨⟨⟨⟨⟨⟨h1, h2⟩, h3⟩, h4⟩, h5⟩, h6⟩, h7⟩ := h
      exact ss_tryR G (by simpa using h1) h2 h3 h4 h5 h6 fun wE' pn xe G' => okSs_ok b (X.tr pn xe) wE' _ G' h7
    · cases h
theorem okSs_ok : ∀ (A : Ss) (X : Cx) (wE : Wish) (l : List Stmt), GoodS T Fs cl fc wE nf N sc X → okSs T nf N sc A l = true → PSs X l (tS fc wE (evSs Fs A))
  | .nil, X, wE, l, G, h => by
    rw [okSs] at h
    cases l with
    | nil => exact ss_nil
    | cons => cases h
  | .never, X, wE, l, G, h => ss_never
  | .cons s ss, X, wE, l, G, h => by
    rw [okSs] at h
    split at h
    · next q hq =>
      have := unS_eq hq
      subst this
      simp only [Bool.and_eq_true] at h
      exact ss_cons (okS_ok s X wE _ G h.1) (okSs_ok ss X wE _ G h.2)
    · cases h
end
end
end Mp
set_option Elab.async false
set_option linter.all false
set_option maxRecDepth 100000
set_option maxHeartbeats 4000000
set_option autoImplicit false
/-! Mp21: a def keeps its promise -/
namespace Mp
open PySem PySem.Spec PyProof.Rows L2
/-- what an own exception class must say, so that its instances may be asked -/
structure ExK (K : PySem.W.Frag) (C : Addr) : Prop where
  isc : L2.ExcC K C
  st : PySem.W.findIn K (.ref C) "__str__" = some (some (.builtin "BaseException.__str__"))
  ve : PySem.W.kitOne K (.ref C) (.type "ValueError") = some true
/-- what is known of the module -/
structure Facts (T : Tab) (Fs : Nat → Fn) (cl : Nat → Addr) (P : Program) (w : World) (K : PySem.W.Frag) (mg : Str → Option Value) (base : Heap) (nf : Nat) : Prop where
  blt : ∀ x ∈ T.blt, mg x = none
  cst : ∀ p ∈ T.cst, ∃ t, mg p.1 = some (.int p.2 t)
  exs : ∀ p ∈ T.exs, (∃ (bmB : List Value) (B newId initId : String), ExcBaseFacts B newId initId bmB ∧ PySem.W.excIn K (cl p.2) bmB newId = true) ∧ mg p.1 = some (.ref (cl p.2)) ∧ PySem.W.keepIn K (.ref (cl p.2)) = true ∧
    PySem.W.subIn K (.ref (cl p.2)) (.type "BaseException") = some true ∧ PySem.W.typeIn K (.ref (cl p.2)) = some (.type "type")
  kls : ∀ p ∈ T.kls, ∃ (a : Addr) (fd : FuncData) (ps : List Str), mg p.2 = some (.ref a) ∧ PySem.W.keepIn K (.ref a) = true ∧ Binds K fd ps [] ∧ FnX P w K mg base nf cl a fd ps (Fs p.1)
  exm : ∀ a b, a < T.nx → b < T.nx → PySem.W.exmOne K (.ref (cl a)) (.ref (cl b)) = some (b == 0 || a == b)
  kit : ∀ a b, a < T.nx → b < T.nx → PySem.W.kitOne K (.ref (cl a)) (.ref (cl b)) = some (b == 0 || a == b)
  exk : ∀ a < T.nx, ExK K (cl a)
  fn : ∀ f x ps, f < nf → T.fns[f]? = some (x, ps) → ∃ (a : Addr) (fd : FuncData), mg x = some (.ref a) ∧ PySem.W.keepIn K (.ref a) = true ∧ Binds K fd ps [] ∧ FnG P w K mg base nf a fd ps (spOf w cl (Fs f))
section
variable {T : Tab} {Fs : Nat → Fn} {cl : Nat → Addr} {P : Program} {w : World} {K : PySem.W.Frag} {mg : Str → Option Value} {base : Heap} {nf : Nat}
theorem Facts.good (F : Facts T Fs cl P w K mg base nf) {N ps : List Str} {qual : Str} {scope : Scope} {f : Addr} {cdv : Value} {A : Around} {outer : List Env} {s : Shared} {H : Hp} {E : XK} {fc : Fc} (hfc : fc.w = w) (S : FnScope N ps scope)
    (hr : Room nf (A.deeper (envOfC qual scope s.heap.objs.size f cdv))) (hg : A.guards = some []) :
    GoodS T Fs cl fc (fun c _ H' => E (.ref (cl c)) none H') nf N scope (cxOf (Mp.CX P w) P w K mg base N qual scope f cdv A outer s H E) where
  kind := S.kind
  pass := passes_of rfl
  stk := rfl
  frm := rfl
  g := {
    N := rfl
    so := fun _ _ => rfl
    nd := S.nd
    sc := rfl
    calm := rfl
    w := hfc.symm
    room := hr
    gd := hg
    tk := (takes_of (X := cxOf (Mp.CX P w) P w K mg base N qual scope f cdv A outer s H E) rfl rfl rfl (E := E) rfl).imp fun c σ H' ⟨n, e1, _, h⟩ => by rw [e1]; exact h
    blt := F.blt
    cst := F.cst
    exs := fun p hp => by
      obtain ⟨h1, h2, h3, h4, h5⟩ := F.exs p hp
      exact ⟨h1, h2, h3, raises_own h4 h5⟩
    fn := fun f x ps hf e => ⟨F.fn f x ps hf e⟩
    kls := fun p hp => ⟨F.kls p hp⟩
    exm := F.exm }
theorem ArgsR.sl {W : Wd} {H : Hp} : ∀ {vs : List V} {svs : List SV} (n : Nat), ArgsR w W H vs svs → Sl w W.F H W.al (svs.map some ++ List.replicate n none) (vs.map some ++ List.replicate n none) []
  | _, _, n, .nil => by
    simp only [List.map_nil, List.nil_append]
    induction n with
    | zero => exact .nil
    | succ n ih => exact .non ih
  | _, _, n, .cons (v := v) (sv := sv) a t => by
    have ih := ArgsR.sl n t
    have s : SVR w W.F H W.al v sv [] := by
      cases sv with
      | dat d => exact ⟨rfl, a⟩
      | gl k => exact ⟨rfl, a⟩
      | _ => exact a.elim
    exact Sl.cons (A := []) (B := []) s ih
theorem Ent.r {fc : Fc} {g : List GE} {vs : List V} {svs : List SV} {n : Nat} (e : Ent fc g) (a : ArgsR fc.w fc.W0 fc.H0 vs svs) : R fc ⟨svs.map some ++ List.replicate n none, g⟩ fc.W0 (vs.map some ++ List.replicate n none) fc.H0 := by
  refine ⟨by rw [e.a]; exact a.sl n, e.g, by rw [e.a]; exact e.nd, by rw [e.a]; exact e.nf, e.ft, by rw [e.a]; simp, fun _ h => .inl h, fun _ _ h _ => h, fun _ h => .inl h, fun _ h => h, ⟨[], by simp⟩, fun _ h => h⟩
/-- a body's end is the run's -/
theorem ends_run {fc : Fc} {n : Nat} {B : Ss} {vs : List V} {svs : List SV} {g : List GE} {Q : VK} {E : XK} (e : Ent fc g) (a : ArgsR fc.w fc.W0 fc.H0 vs svs)
    (h : match fnRun Fs n B svs g with
      | none => False
      | some (.ret v g') => ∀ u H' W', Ret fc g' u v H' W' → Q u H'
      | some (.exc c g') => ∀ H' W', Ret fc g' .non (.dat .none) H' W' → E (.ref (cl c)) none H') :
    tS fc (fun c _ H' => E (.ref (cl c)) none H') (evSs Fs B) { nx := fun _ H' => Q .non H', rt := Q } (vs.map some ++ List.replicate (n - vs.length) none) fc.H0 := by
  have hl := a.len
  refine ⟨⟨svs.map some ++ List.replicate (n - vs.length) none, g⟩, fc.W0, e.r a, ?_⟩
  unfold fnRun at h
  rw [← hl] at h
  cases ev : evSs Fs B ⟨svs.map some ++ List.replicate (n - vs.length) none, g⟩ with
  | none => simp only [ev] at h
  | some z =>
    cases z with
    | nx r => simp only [ev] at h; exact fun σ' W' H' _ r' => h .non H' _ (r'.ret (A2 := []) ⟨rfl, .non⟩ (by simp) (by simp))
    | ret v g' => simp only [ev] at h; exact fun u W' H' t => h u H' W' t
    | exc c r => simp only [ev] at h; exact fun σ' W' H' _ r' => h H' _ (r'.ret (u := .non) (v := .dat .none) (A2 := []) ⟨rfl, .non⟩ (by simp) (by simp))
    | brk r => simp only [ev] at h
    | cnt r => simp only [ev] at h
/-- THE RULE of a def, where no guard stands -/
theorem fn_ofG {k : Nat} {f : Addr} {name qual : Str} {params : Arguments} {body : List Stmt} {scope : Scope} {dV kV doc pm cdv ct oc : Value} {an od : Option Addr}
    {osl : Array (Option Value)} {N ps : List Str} {sp : Sp} (lk : K.lookup f = some ⟨oc, od, .func (PySem.W.fnOf name qual params body scope dV kV doc pm an cdv ct), osl⟩) (hcd : PySem.W.codeIn K cdv qual = true) (S : FnScope N ps scope)
    (len : ∀ vs H Q E, sp vs H Q E → vs.length = ps.length)
    (hbody : ∀ (A : Around) (outer : List Env) (s : Shared) (H : Hp) (vs : List V) (Q : VK) (E : XK), Room k (A.deeper (envOfC qual scope s.heap.objs.size f cdv)) → A.guards = some [] → sp vs H Q E →
      ∃ t, PSs (cxOf (Mp.CX P w) P w K mg base N qual scope f cdv A outer s H E) body t ∧ t { nx := fun _ H' => Q .non H', rt := Q } (start N vs) H) :
    FnG P w K mg base (k + 1) f (PySem.W.fnOf name qual params body scope dV kV doc pm an cdv ct) ps sp := by
  refine ⟨len, fun A outer s H args us vs Q E hr hgd e0 hb r hsp => ?_⟩
  have hl := len _ _ _ _ hsp
  have KX : K.In s.heap := e0.mod.kin.keeps fun b o e => (e0.bs b o e).1
  have lim : s.heap.NoLimit := e0.mod.nolimit.keeps fun b o e => (e0.bs b o e).1
  have hkind : ∀ y ∈ ps.zip us, scope.names.lookup y.1 = some .local ∨ (scope.names.lookup y.1 = some .cell ∧ ((cellsFrom (s.heap.objs.size + 1) scope.names []).lookup y.1).isSome = true) := fun ⟨n, v⟩ hy => by
    rcases S.par n (List.of_mem_zip hy).1 with q | q
    · exact .inl q
    · exact .inr ⟨q, PySem.W.cellsFrom_some _ _ _ (.inl q)⟩
  refine codeAny_call_function hr.depth (KX _ _ lk) rfl S.co S.gen rfl (PySem.W.codeRec_of KX hcd) (hb _ _ _ _ ?_)
  refine wpAny_newFunctionEnv_cells S.kind hkind fun env he s1 x => ?_
  subst he
  refine ⟨lim.keeps x.toInCall.keep, codeAny_func ?_⟩
  obtain ⟨t, ht, hq⟩ := hbody A outer s H vs Q E (hr.deeper _) hgd hsp
  have I : Inv (cxOf (Mp.CX P w) P w K mg base N qual scope f cdv A outer s H E) [] (start N vs) H s1 := inv_start S hr.hd e0 hl r x
  refine wpAny_mono (ht.run [] s1 (start N vs) H _ I hq) (fun fl s' hs => ?_) fun e s' hs => hs
  have fin : ∀ {σ' : L2.St} {H' : Hp} {v : V} {u : Value}, Inv (cxOf (Mp.CX P w) P w K mg base N qual scope f cdv A outer s H E) [] σ' H' s' → RelV v u → Q v H' → CE outer P w H s Q u s' :=
    fun {σ' H' v u} J rv q => ⟨v, H', J.os, J.bare, J.base, J.hok, rv, q⟩
  cases fl with
  | ret u =>
    obtain ⟨v, σ', H', J, rv, q⟩ := hs
    exact fin J rv q
  | next =>
    obtain ⟨σ', H', J, q⟩ := hs
    exact fin (v := V.non) (u := Value.none) J rfl q
  | brk =>
    obtain ⟨_, _, _, q⟩ := hs
    exact False.elim q
  | cont =>
    obtain ⟨_, _, _, q⟩ := hs
    exact False.elim q
/-- a def of the table's next place -/
theorem Facts.fnG (F : Facts T Fs cl P w K mg base nf) {x : Str} {st : Stmt} {f : Addr} {fd : FuncData} {N ps : List Str} {B : Ss} (D : C8.Fun K x x st f fd) (S : FnScope N ps (C8.fnScope st)) (pu : Bool) (ok : okSs T nf N (C8.fnScope st) B (C8.fnBody st) = true) :
    FnG P w K mg base (nf + 1) f fd ps (spOf w cl ⟨pu, ps.length, fnRun Fs N.length B⟩) := by
  obtain ⟨oc, od, dV, kV, doc, pm, an, cdv, ct, osl, rfl, lk, hcd⟩ := D.ex
  refine fn_ofG lk hcd S (fun vs H Q E h => ?_) fun A outer s H vs Q E hr hg h => ?_
  · obtain ⟨W0, svs, g, hl, ent, args, _⟩ := h
    rw [args.len]; exact hl
  · obtain ⟨W0, svs, g, hl, ent, args, _, hm⟩ := h
    exact ⟨tS ⟨w, H, W0⟩ (fun c _ H' => E (.ref (cl c)) none H') (evSs Fs B), okSs_ok B _ _ _ (F.good (fc := ⟨w, H, W0⟩) rfl S hr hg) ok, ends_run ent args hm⟩
end
end Mp
set_option Elab.async false
set_option linter.all false
set_option maxRecDepth 100000
set_option maxHeartbeats 4000000
set_option autoImplicit false
/-! Mp23: the box, the law's own def -/
namespace Mp
open PySem PySem.Spec PyProof.Rows L2
/-- what the box's def makes of the script -/
def spBox (K : PySem.W.Frag) : Sp := fun vs H Q _ => ∃ (a : Addr) (ns : List Int), vs = [.ref a] ∧ SqL K H a (ns.map V.int) ∧ ns.length ≤ lim ∧
  ∀ p q H', Same H H' → H p = none → H q = none → p ≠ q → H' p = some (.lst [.int 0, .int 0, .int 0, .ref q]) → H' q = some (.lst (ns.map fun i => .int (absI i))) → Q (.ref p) H'
def boxA : E := .op .abs (.cons (.op .int (.cons (.nm 1) .nil)) .nil)
theorem box_elt {Fs : Nat → Fn} {i : Int} {r : Rho} (h : r.at 1 = some (.dat (.int i))) : elt1 (evE Fs boxA) r = some (.ok [.int (absI i)] r) := by
  unfold boxA elt1
  rw [evE_op1, evE_op1, evE]
  unfold M.bnd M.get slotO
  simp only [h]
  unfold opFin resAll Opd.res resAll
  rfl
theorem box_goes {Fs : Nat → Fn} : ∀ (ns : List Int) (r : Rho), 1 < r.sl.length → ∃ r', goes (turnM [1] (.nm 1) (elt1 (evE Fs boxA))) (ns.map .int) r = some (.ok (ns.map fun i => .int (absI i)) r')
  | [], r, _ => ⟨r, rfl⟩
  | i :: ns, r, h => by
    have e1 : (wipe r [1]).at 1 = none := wipe_in (by simp)
    have e2 : wr (wipe r [1]) 1 (.dat (.int i)) = some ((wipe r [1]).set 1 (some (.dat (.int i)))) := by unfold wr; rw [e1]
    have e3 : ((wipe r [1]).set 1 (some (.dat (.int i)))).at 1 = some (.dat (.int i)) := by rw [at_set, if_pos ⟨rfl, by rw [wipe_len]; exact h⟩]
    obtain ⟨r', hr⟩ := box_goes ns ((wipe r [1]).set 1 (some (.dat (.int i)))) (by rw [set_len, wipe_len]; exact h)
    have ht : turnM [1] (.nm 1) (elt1 (evE Fs boxA)) (.int i) r = some (.ok [.int (absI i)] ((wipe r [1]).set 1 (some (.dat (.int i))))) := by
      unfold turnM
      rw [asgT, e2]
      dsimp only
      unfold noExc
      rw [box_elt e3]
    refine ⟨r', ?_⟩
    rw [List.map_cons, goes]
    unfold M.bnd
    rw [ht]
    dsimp only
    rw [hr]
    rfl
/-- the pieces of the box's def -/
def boxSub (T : Tab) (sc : Scope) (y x : Str) : List Stmt → Bool
  | [.Return (some (.List [.Constant (.int 0) _ _, .Constant (.int 0) _ _, .Constant (.int 0) _ _, .ListComp elt [⟨.Name x' _, .Name y' _, [], 0⟩] scope _] _)) _] =>
    decide (x' = x) && decide (y' = y) && visC sc y && dbg y && blkC [y, x] sc scope [(x, 1)] && okT [y, x] (relS scope sc) (blkSo scope) (.nm 1) (.Name x' default) && okE T 0 [y, x] boxA (relS scope sc) (blkSo scope) elt
  | _ => false
section
variable {T : Tab} {Fs : Nat → Fn} {cl : Nat → Addr} {P : Program} {w : World} {K : PySem.W.Frag} {mg : Str → Option Value} {base : Heap}
theorem okT_pos {N : List Str} {sc : Scope} {so : Str → Bool} {i : Nat} {x : Str} {p q : Pos} (h : okT N sc so (.nm i) (.Name x p) = true) : okT N sc so (.nm i) (.Name x q) = true := by
  rw [okT] at h ⊢
  exact h
theorem compM_none {own : List Nat} {t : Tg} {m : M (List D)} {xs ys : List D} {r r' : Rho} (ht : tgIn own t = true) (hg : goes (turnM own t m) xs r = some (.ok ys r')) (hl : ys.length ≤ lim) : compM own t (M.ok (xs, none)) m r = some (.ok ys (back r r' own)) := by
  unfold compM
  rw [M.ok_bnd]
  dsimp only
  rw [if_pos (by simp [ht, outOwn])]
  simp only [lockO, hg, if_pos hl, unlockO]
/-- nothing in the slots -/
theorem R.bare {fc : Fc} {σ : L2.St} (ft : ∀ a, fc.W0.F a → ∃ o, fc.H0 a = some o) (hA : fc.W0.A = []) (hB : fc.W0.B = []) (hal : fc.W0.al = []) : R fc ⟨List.replicate σ.length none, []⟩ fc.W0 σ fc.H0 := by
  have sl : ∀ σ : L2.St, Sl fc.w fc.W0.F fc.H0 fc.W0.al (List.replicate σ.length none) σ [] := fun σ => by
    induction σ with
    | nil => exact .nil
    | cons v σ ih => exact .non ih
  refine ⟨by rw [hA]; exact sl σ, by rw [hB, hal]; exact .nil, by rw [hA, hB]; simp, by rw [hA, hB]; simp, ft, by rw [hA]; simp, fun _ h => .inl h, fun _ _ h _ => h, fun _ h => .inl h, fun _ h => h, ⟨[], by simp⟩, fun _ h => h⟩
theorem dens_intsV {w : World} {F : Addr → Prop} {H : Hp} : ∀ {vs : List V} {ns : List Int}, Dens w F H vs (ns.map .int) → vs = ns.map V.int
  | [], [], _ => rfl
  | v :: vs, n :: ns, h => by
    cases h with
    | cons a t => cases a; rw [dens_intsV t]; rfl
  | [], _ :: _, h => by cases h
  | _ :: _, [], h => by cases h
theorem boxG (F : Facts T Fs cl P w K mg base 0) {x : Str} {st : Stmt} {f : Addr} {fd : FuncData} {y z : Str} (D : C8.Fun K x x st f fd) (S : FnScope [y, z] [y] (C8.fnScope st)) (ok : boxSub T (C8.fnScope st) y z (C8.fnBody st) = true) :
    FnG P w K mg base 1 f fd [y] (spBox K) := by
  obtain ⟨oc, od, dV, kV, doc, pm, an, cdv, ct, osl, rfl, lk, hcd⟩ := D.ex
  refine fn_ofG lk hcd S (fun vs H Q E h => ?_) fun A outer s H vs Q E hr hg h => ?_
  · obtain ⟨a, ns, rfl, _⟩ := h; rfl
  · obtain ⟨a, ns, rfl, hq, hl, k⟩ := h
    let fc : Fc := ⟨w, H, ⟨fun b => b = a ∧ ∃ o, H b = some o, [], [], []⟩⟩
    have G := F.good (fc := fc) (E := E) (outer := outer) (s := s) (H := H) rfl S hr hg
    have g := G.g
    unfold boxSub at ok
    split at ok
    case h_2 => cases ok
    case h_1 j1 p1 j2 p2 j3 p3 elt x' p4 y' p5 scope p6 p7 p8 hbody =>
      simp only [Bool.and_eq_true, decide_eq_true_eq] at ok
      obtain ⟨⟨⟨⟨⟨⟨rfl, rfl⟩, h3⟩, h4⟩, h5⟩, h6⟩, h7⟩ := ok
      rw [hbody]
      obtain ⟨d1, d2, _⟩ := dbg_ok h4
      let X : Cx := cxOf (Mp.CX P w) P w K mg base [y', x'] x (C8.fnScope st) f cdv A outer s H E
      let C : (Addr → Prop) → Hp → Prop := fun F1 H1 => (F1 a ∧ Rd H1 a (.lst (ns.map V.int))) ∨ ∃ (o : Obj) (its : Array Value) (n : Nat), K.lookup a = some o ∧ o.cls = .type "list" ∧ o.dict = none ∧ o.data = .seq its n ∧ its.size ≤ sizeLine ∧ Vals (ns.map V.int) its.toList
      have Csq : ∀ F1 H1, C F1 H1 → SqL K H1 a (ns.map V.int) := fun F1 H1 c => c.elim (fun z => .inl z.2) .inr
      have src : Src fc.w (Itl K a) C (ns.map PyData.int) := by
        refine ⟨fun i F1 H1 c hi => ⟨_, .int (ns[i]'(by simpa using hi)), Csq _ _ c, by simp at hi; simp [hi]⟩, fun F1 H1 c => ⟨_, Csq _ _ c, by simp⟩, fun i F1 H1 v H2 c hi yy => ?_⟩
        obtain ⟨rfl, yy⟩ := yy
        have hv := yy _ (Csq _ _ c)
        have hi' : i < ns.length := by simpa using hi
        rw [List.getElem?_map, List.getElem?_eq_getElem hi'] at hv
        simp only [Option.map_some, Option.some.injEq] at hv
        subst hv
        exact ⟨fun _ _ h => h, .int ns[i], by simp [hi'], .int _⟩
      have sty : ∀ (σ : L2.St) (ρ : Rho), Stays fc σ ρ C none := fun σ ρ F1 F2 H1 H2 c k => by
        rcases c with ⟨f1, c⟩ | c
        · refine .inl ⟨k.f _ f1, ?_⟩
          rcases c with c | ⟨ob, c⟩
          · exact .inl (k.h _ _ f1 c)
          · exact .inr ⟨ob, k.h _ _ f1 c⟩
        · exact .inr c
      have hN0 : X.N[0]? = some y' := rfl
      have hv0 : Vis X.env.scope y' := by rw [g.sc]; exact vis_ok h3
      have hi : PI X (.Name x' p4) (.Name y' p5) (fun σ H' R0 => σ[0]? = some (some (.ref a)) ∧ tI fc (fun c _ H' => E (.ref (cl c)) none H') (M.ok (ns.map PyData.int, none)) σ H' R0) := by
        refine ⟨fun pins s' σ H' R0 I h => (pi_list (pe_var hN0 hv0 d1 d2)).run pins s' σ H' R0 I ?_⟩
        obtain ⟨hσ, ρ, W, r, h⟩ := h
        have c : C W.F H' := by
          rcases hq with (z | ⟨ob, z⟩) | z
          · exact .inl ⟨r.fm a ⟨rfl, _, z⟩, .inl (r.un a _ z (by show a ∉ ([] : List Addr); simp))⟩
          · exact .inl ⟨r.fm a ⟨rfl, _, z⟩, .inr ⟨ob, r.un a _ z (by show a ∉ ([] : List Addr); simp)⟩⟩
          · exact .inr z
        exact ⟨.ref a, hσ, a, rfl, ⟨_, Csq _ _ c⟩, h W H' _ C (Stp.refl _ _) r src c (sty _ _)⟩
      have lc : PE X (.ListComp elt [⟨.Name x' p4, .Name y' p5, [], 0⟩] scope p6) (fun σ H' Q' => σ[0]? = some (some (.ref a)) ∧ tV fc (fun c _ H' => E (.ref (cl c)) none H') ((compM [1] (.nm 1) (M.ok (ns.map PyData.int, none)) (elt1 (evE Fs boxA))).bnd fun xs => .ok (.own (.list xs))) σ H' Q') := by
        refine ⟨fun pins s' σ H' Q' I h => (pe_lc (own := [(x', 1)]) g.calm g.nd hi (by rw [g.N, g.sc]; exact blkOk_by h5) (fun s H C cl fp => okT_ok (g.blk s H C cl fp) _ _ (okT_pos h6)) (fun _ _ _ _ _ => pts_nil) (fun s H C cl fp => (okE_ok boxA _ _ _ wNo _ (g.blk s H C cl fp) h7).e)).run pins s' σ H' Q' I ?_⟩
        obtain ⟨hσ, ρ, W, r, h⟩ := h
        exact ⟨hσ, lc_main (own := [1]) turn_elt1 ((Lk.E Fs boxA).elt1.o) (evT_comp r h)⟩
      refine ⟨_, pss_one (ps_ret (pe_lst (pa_cons (pe_int) (pa_cons (pe_int) (pa_cons (pe_int) (pa_cons lc pa_nil)))))), ?_⟩
      obtain ⟨r', hgo⟩ := box_goes (Fs := Fs) ns ⟨List.replicate (start [y', x'] [V.ref a]).length none, []⟩ (by show 1 < (List.replicate 2 (none : Option SV)).length; decide)
      refine ⟨rfl, ⟨List.replicate (start [y', x'] [V.ref a]).length none, []⟩, fc.W0, R.bare (fun b hb => hb.2) rfl rfl rfl, ?_⟩
      have hm : ((compM [1] (.nm 1) (M.ok (ns.map PyData.int, none)) (elt1 (evE Fs boxA))).bnd fun xs => M.ok (SV.own (.list xs))) ⟨List.replicate (start [y', x'] [V.ref a]).length none, []⟩ =
          some (.ok (.own (.list (ns.map fun i => .int (absI i)))) (back ⟨List.replicate (start [y', x'] [V.ref a]).length none, []⟩ r' [1])) := by
        unfold M.bnd
        rw [compM_none rfl hgo (by simpa using hl)]
        rfl
      unfold ExV
      rw [hm]
      intro u W' H' st r1 b
      obtain ⟨A2, ⟨q, rfl, ow⟩, nd, hA⟩ := b.sv
      obtain ⟨h1, h2, h3', h4'⟩ := hA q (by simp)
      have hu := ow.ref
      subst hu
      obtain ⟨ws, hw, dw⟩ := ow.lst
      have ew : ws = ns.map fun i => V.int (absI i) := by
        have e : (ns.map fun i => PyData.int (absI i)) = (ns.map absI).map PyData.int := by simp
        rw [e] at dw
        rw [dens_intsV dw]; simp
      subst ew
      have sm : Same H H' := fun b o e => st.un b o e (by show b ∉ ([] : List Addr); simp)
      refine ⟨by show 4 ≤ sizeLine; rw [sizeLine_eq]; decide, fun p hp => ?_⟩
      have hpq : p ≠ q := fun z => by subst z; rw [hw] at hp; cases hp
      refine k p q _ (fun b o e => ?_) ?_ h1 hpq upd_same (by rw [upd_ne (Ne.symm hpq)]; exact hw)
      · rw [upd_ne (fun z => by subst z; rw [sm b o e] at hp; cases hp)]
        exact sm b o e
      · cases eH : H p with
        | none => rfl
        | some o => rw [sm p o eH] at hp; cases hp
end
end Mp
set_option Elab.async false
set_option linter.all false
set_option maxRecDepth 100000
set_option maxHeartbeats 4000000
set_option autoImplicit false
/-! Mp24: the law's own def; the top -/
namespace Mp
open PySem PySem.Spec PyProof.Rows L2
def spLaw (K : PySem.W.Frag) (run : List Int → Option SR) : Sp := fun vs H Q _ => ∃ (a : Addr) (ns : List Int), vs = [.ref a] ∧ SqL K H a (ns.map V.int) ∧ ns.length ≤ lim ∧ (∃ g, run ns = some (.ret (.dat (.bool true)) g)) ∧ ∀ H', Q (.bl true) H'
def lawSub : List Stmt → Option (Str × Str × Str × List Stmt)
  | .Assign [.Name bx _] (.Call (.Name fn _) [.Name y _] [] _) _ :: rest => some (bx, fn, y, rest)
  | _ => none
theorem lawSub_eq {l : List Stmt} {q : Str × Str × Str × List Stmt} (h : lawSub l = some q) : ∃ p1 p2 p3 p4 p5, l = .Assign [.Name q.1 p1] (.Call (.Name q.2.1 p2) [.Name q.2.2.1 p3] [] p4) p5 :: q.2.2.2 := by
  unfold lawSub at h; split at h <;> cases h; exact ⟨_, _, _, _, _, rfl⟩
/-- the check of the law's def: i the box's slot -/
def lawOk (T : Tab) (nf : Nat) (N : List Str) (sc : Scope) (bfn y : Str) (i : Nat) (B : Ss) (l : List Stmt) : Bool := match lawSub l with
  | some q => decide (q.2.1 = bfn) && decide (q.2.2.1 = y) && glC sc bfn && dbg bfn && nmC N sc 0 y && tgC N sc allS i (.Name q.1 default) && decide (i < N.length) && okSs T nf N sc B q.2.2.2
  | none => false
section
variable {T : Tab} {Fs : Nat → Fn} {cl : Nat → Addr} {P : Program} {w : World} {K : PySem.W.Frag} {mg : Str → Option Value} {base : Heap} {nf : Nat} {wE : Wish}
/-- f(e), f's promise told -/
theorem pe_callG {X : Cx} {k : Nat} {a : Addr} {fd : FuncData} {ps : List Str} {sp : Sp} {x : Str} {e : Expr} {te : TE} {p pos : Pos} (hF : FnG X.prog X.w X.K X.mg X.base k a fd ps sp) (hr : Room k X.A) (hgd : X.A.guards = some []) (tk : Takes X (wx cl wE)) (hg : Gl X x) (hm : X.mg x = some (.ref a)) (hk : PySem.W.keepIn X.K (.ref a) = true)
    (hb : Binds X.K fd ps []) (he : PE X e te) (hn : ns e = true) (hd : (x == ("__debug__" : Str)) = false) : PE X (.Call (.Name x p) [e] [] pos) (fun σ H Q => te σ H fun v H1 => sp [v] H1 Q (WE (wx cl wE) σ)) := by
  refine ⟨fun pins s σ H Q I h => ?_⟩
  refine wpAny_Call_Name_kw (ld_glob I hg hm ?_ hd)
  have ha : PA X [e] _ := pa_cons he pa_nil (ns_star hn _ _)
  refine PySem.W.callWith_K (h₀ := X.base) I.ok.mod.kin hk (thn (ha.run pos pins s σ H (fun vs H1 => sp vs H1 Q (WE (wx cl wE) σ)) I h) fun us s1 ⟨vs, H1, I1, r1, q1⟩ => ⟨I1.kIn, ?_⟩) (ns_star hn _ _) rfl
  exact run_fnG (E := WE (wx cl wE) σ) hF hr hgd hb (passAt tk σ) I1 r1 q1
theorem lawG (F : Facts T Fs cl P w K mg base nf) (hnf : 1 ≤ nf) {bfn : Str} {fb : Addr} {fdb : FuncData} {z : Str} (mb : mg bfn = some (.ref fb)) (kb : PySem.W.keepIn K (.ref fb) = true) (bb : Binds K fdb [z] []) (GB : FnG P w K mg base 1 fb fdb [z] (spBox K))
    {x : Str} {st : Stmt} {f : Addr} {fd : FuncData} {N : List Str} {y : Str} {i : Nat} {B : Ss} (D : C8.Fun K x x st f fd) (S : FnScope N [y] (C8.fnScope st)) (ok : lawOk T nf N (C8.fnScope st) bfn y i B (C8.fnBody st) = true) :
    FnG P w K mg base (nf + 1) f fd [y] (spLaw K (lawRun Fs N.length i B)) := by
  obtain ⟨oc, od, dV, kV, doc, pm, an, cdv, ct, osl, rfl, lk, hcd⟩ := D.ex
  refine fn_ofG lk hcd S (fun vs H Q E h => ?_) fun A outer s H vs Q E hr hg h => ?_
  · obtain ⟨a, ns, rfl, _⟩ := h; rfl
  · obtain ⟨a, ns, rfl, hq, hl, ⟨g', hrun⟩, k⟩ := h
    have G : ∀ fc : Fc, fc.w = w → GoodS T Fs cl fc (fun c _ H' => E (.ref (cl c)) none H') nf N (C8.fnScope st) (cxOf (Mp.CX P w) P w K mg base N x (C8.fnScope st) f cdv A outer s H E) := fun fc hfc => F.good (E := E) (outer := outer) (s := s) (H := H) hfc S hr hg
    have g := (G ⟨w, H, ⟨fun _ => False, [], [], []⟩⟩ rfl).g
    unfold lawOk at ok
    split at ok
    case h_2 => cases ok
    case h_1 q hq2 =>
      obtain ⟨p1, p2, p3, p4, p5, hbody⟩ := lawSub_eq hq2
      simp only [Bool.and_eq_true, decide_eq_true_eq] at ok
      obtain ⟨⟨⟨⟨⟨⟨⟨h1, h2⟩, h3⟩, h4⟩, h5⟩, h6⟩, h7⟩, h8⟩ := ok
      rw [hbody]
      subst h1 h2
      obtain ⟨t1, t2, t3⟩ := tgC_ok (p := default) g h6
      obtain ⟨n1, n2, n3, n4⟩ := nmC_ok g h5
      have hcall := pe_callG (p := p2) (pos := p4) (X := cxOf (Mp.CX P w) P w K mg base N x (C8.fnScope st) f cdv A outer s H E) GB (g.room.mono hnf) g.gd g.tk (g.gl h3) mb kb bb (pe_var (pos := p3) n1 n2 n3 n4) rfl (dbg_ok h4).1
      have hrest : PSs (cxOf (Mp.CX P w) P w K mg base N x (C8.fnScope st) f cdv A outer s H E) q.2.2.2 (fun D σ H' => ∃ fc : Fc, fc.w = w ∧ tS fc (fun c _ H' => E (.ref (cl c)) none H') (evSs Fs B) D σ H') :=
        ⟨fun pins s' σ H' D I ⟨fc, hw, hh⟩ => (okSs_ok B _ _ _ (G fc hw) h8).run pins s' σ H' D I hh⟩
      refine ⟨_, pss_cons (ps_set (pos' := p1) g.nd t1 t2 hcall rfl t3) hrest, ?_⟩
      refine ⟨.ref a, by simp [L2.start], a, ns, rfl, hq, hl, fun p r H' sm hp hr' hpr e1 e2 => ?_⟩
      refine ⟨⟨w, H', ⟨fun b => b = r, [], [p], [p]⟩⟩, rfl, ⟨(List.replicate N.length none).set i (some (.gl 0)), [.lst (boxD ns)]⟩, ⟨fun b => b = r, [], [p], [p]⟩, ?_, ?_⟩
      · have dints : ∀ l : List Int, Dens w (fun b => b = r) H' (l.map fun i => V.int (absI i)) (l.map fun i => PyData.int (absI i)) := fun l => by
          induction l with
          | nil => exact .nil
          | cons j l ih => exact .cons (.int _) ih
        have ow : Own1 w (fun b => b = r) H' (.ref p) (boxD ns) p := Own1.ofLst e1 (.cons (.int 0) (.cons (.int 0) (.cons (.int 0) (.cons (.lst rfl e2 (dints ns)) .nil))))
        have sl0 : ∀ σ : L2.St, Sl w (fun b => b = r) H' [p] (List.replicate σ.length none) σ [] := fun σ => by
          induction σ with
          | nil => exact .nil
          | cons v σ ih => exact .non ih
        have hlen : (L2.start N [V.ref a]).length = N.length := by
          have := S.pre
          have h2 : [q.2.2.1].length ≤ N.length := by have := congrArg List.length S.pre; rw [List.length_take] at this; omega
          simp only [L2.start, List.length_append, List.length_map, List.length_replicate, List.length_singleton] at h2 ⊢
          omega
        have sl1 := sl0 (L2.start N [V.ref a])
        rw [hlen] at sl1
        obtain ⟨A1, A3, hA, put⟩ := Sl.putN sl1 (i := i) (by rw [List.getElem?_replicate, if_pos h7])
        have hA1 : A1 = [] ∧ A3 = [] := by
          have := congrArg List.length hA
          simp only [List.length_nil, List.length_append] at this
          exact ⟨List.length_eq_zero_iff.mp (by omega), List.length_eq_zero_iff.mp (by omega)⟩
        have sl2 := put (.gl 0) (.ref p) [] ⟨rfl, p, rfl, rfl⟩
        rw [hA1.1, hA1.2] at sl2
        refine ⟨sl2, .lst ow .nil, by simp, fun b hb hf => ?_, fun b hb => ?_, by simp, fun b hb => .inl hb, fun b o e _ => e, fun b hb => .inl hb, fun b hb => hb, ⟨[], rfl⟩, fun b hb => hb⟩
        · have hb' : b = p := by simpa using hb
          have hf' : b = r := hf
          exact hpr (hb'.symm.trans hf')
        · have hb' : b = r := hb
          subst hb'
          exact ⟨_, e2⟩
      · have : evSs Fs B ⟨(List.replicate N.length none).set i (some (.gl 0)), [.lst (boxD ns)]⟩ = some (.ret (.dat (.bool true)) g') := hrun
        rw [this]
        intro u W' H2 t
        have sv := t.sv
        obtain ⟨_, dn⟩ := sv
        cases dn
        exact k H2
end
end Mp
set_option Elab.async false
set_option linter.all false
set_option maxRecDepth 100000
set_option maxHeartbeats 4000000
set_option autoImplicit false
/-! Mp25: the top -/
namespace Mp
open PySem PySem.Spec PyProof.Rows L2
def lo1 (vs : List Value) : Obj := { cls := .type "list", data := .seq vs.toArray }
/-- the heap as the law finds it: the script alone, if it is no object of the module -/
def topH (K : PySem.W.Frag) (a : Addr) (vs : List Value) (ns : List Int) : Hp := fun b => if b = a ∧ (K.lookup a).isSome = false then some (.frz (lo1 vs) (.lst (ns.map V.int))) else none
section
variable {K : PySem.W.Frag} {a : Addr} {vs : List Value} {ns : List Int} {P : Program} {w : World} {s : Shared} {mg mb : Str → Option Value}
theorem topH_some {b : Addr} {o : HO} (h : topH K a vs ns b = some o) : b = a ∧ (K.lookup a).isSome = false ∧ o = .frz (lo1 vs) (.lst (ns.map V.int)) := by
  unfold topH at h
  split at h
  · next z => cases h; exact ⟨z.1, z.2, rfl⟩
  · cases h
theorem topH_none {b : Addr} (h : b ≠ a ∨ (K.lookup a).isSome = true) : topH K a vs ns b = none := by
  unfold topH
  rw [if_neg]
  rintro ⟨z1, z2⟩
  rcases h with h | h
  · exact h z1
  · rw [h] at z2; cases z2
theorem top_sq (KX : K.In s.heap) (ha : s.heap.get? a = some (lo1 vs)) (hi : IntsAre vs ns) (hl : ns.length ≤ sizeLine) : SqL K (topH K a vs ns) a (ns.map V.int) := by
  have lenV := hi.length
  cases hk : K.lookup a with
  | none => exact .inl (.inr ⟨lo1 vs, by unfold topH; rw [if_pos ⟨rfl, by rw [hk]; rfl⟩]⟩)
  | some o =>
    have e := KX a o hk
    rw [ha] at e
    cases e
    exact .inr ⟨lo1 vs, vs.toArray, _, hk, rfl, rfl, rfl, by rw [List.size_toArray, lenV]; exact hl, by simpa using vals_ints hi⟩
theorem top_ok (ha : s.heap.get? a = some (lo1 vs)) (hi : IntsAre vs ns) (hl : ns.length ≤ sizeLine) : HOk P w (topH K a vs ns) s.heap := fun b o h => by
  obtain ⟨rfl, _, rfl⟩ := topH_some h
  exact ⟨ha, by rw [List.length_map]; exact hl, vs, _, vals_ints hi, ha⟩
/-- the module stands beside the script -/
theorem top_env (KX : K.In s.heap) (hns : s.heap.Ns mainGlobals mg) (hb : s.heap.Ns builtinsNs mb) (hbb : ∀ x : Str, x ≠ "__name__" → mb x = bootBuiltins x) (hlim : s.heap.NoLimit) (hg : s.gens = #[])
    (ha : s.heap.get? a = some (lo1 vs)) (hi : IntsAre vs ns) (hl : ns.length ≤ sizeLine) :
    K.In (hidT s.heap (topH K a vs ns)) ∧ (hidT s.heap (topH K a vs ns)).Ns mainGlobals mg ∧ Env0 P w K mg (hidT s.heap (topH K a vs ns)) callerA [] s (topH K a vs ns) := by
  have dictN : ∀ {b : Addr} {o : Obj} {es : Array DictEntry} {ep : Nat}, s.heap.get? b = some o → o.data = .dict es ep → topH K a vs ns b = none := fun {b o es ep} e d => by
    refine topH_none (.inl fun z => ?_)
    subst z
    rw [ha] at e; cases e
    have d' : Data.seq vs.toArray _ = Data.dict es ep := d
    cases d'
  have nsK : ∀ {b : Addr} {m : Str → Option Value}, s.heap.Ns b m → (hidT s.heap (topH K a vs ns)).Ns b m := fun {b m} ⟨o, es, ep, e, d, r⟩ => ⟨o, es, ep, hidT_get e (dictN e d), d, r⟩
  have hKb : K.In (hidT s.heap (topH K a vs ns)) := fun b o e => hidT_get (KX b o e) (by
    by_cases z : b = a
    · subst z; exact topH_none (.inr (by rw [e]; rfl))
    · exact topH_none (.inl z))
  refine ⟨hKb, nsK hns, rfl, ⟨hKb, nsK hns, ⟨mb, nsK hb, hbb⟩, let ⟨mc, h1, h2⟩ := hlim; ⟨mc, nsK h1, h2⟩⟩, fun b o e => of_hidT e, Nat.le_of_eq (hidT_size _ _), trivial, fun b hb => ?_, top_ok ha hi hl, .of_eq hg⟩
  exact absurd (show b ∈ ([] : List Addr) from hb) (by simp)
/-- the law is called -/
theorem top_call {k : Nat} {fa : Addr} {fd : FuncData} {x : Str} {sp : Sp} (KX : K.In s.heap) (hns : s.heap.Ns mainGlobals mg) (hb : s.heap.Ns builtinsNs mb) (hbb : ∀ x : Str, x ≠ "__name__" → mb x = bootBuiltins x) (hlim : s.heap.NoLimit) (hg : s.gens = #[])
    (ha : s.heap.get? a = some (lo1 vs)) (hi : IntsAre vs ns) (hl : ns.length ≤ sizeLine) (hr : Room k callerA)
    (F : ∀ base : Heap, K.In base → base.Ns mainGlobals mg → FnG P w K mg base k fa fd [x] sp) (hbind : ∀ (s : Shared) (u : Value), BindsTo s fd ⟨[u], []⟩ [(x, u)])
    (hsp : ∀ H : Hp, SqL K H a (ns.map V.int) → sp [.ref a] H (fun v _ => v = .bl true) fun _ _ _ => False) :
    codeAny (model P w) callerA (.call (.ref fa) ⟨[.ref a], []⟩) (fun r s' => r = .ok (.ret (.bool true)) ∧ OldK s.heap s'.heap ∧ s'.os = s.os ∧ AllBare s'.gens) s := by
  obtain ⟨hK, hN, e0⟩ := top_env (P := P) (w := w) KX hns hb hbb hlim hg ha hi hl
  refine codeAny_mono ((F _ hK hN).run callerA [] s _ ⟨[.ref a], []⟩ [.ref a] [.ref a] _ _ hr rfl e0 (hbind s (.ref a)) (.cons rfl .nil) (hsp _ (top_sq KX ha hi hl))) fun r s' h => ?_
  cases r with
  | error e =>
    obtain ⟨_, _, _, _, _, _, _, _, _, _, z⟩ := h
    exact z.elim
  | ok fl =>
    cases fl with
    | next => exact False.elim h
    | brk => exact False.elim h
    | cont => exact False.elim h
    | ret u =>
      obtain ⟨v, H', os, bare, un, hok', r', q⟩ := h
      have q' : v = .bl true := q
      subst q'
      obtain rfl : u = Value.bool true := r'
      refine ⟨rfl, OldK.of_keep fun b o e => ?_, os, bare⟩
      cases q : topH K a vs ns b with
      | none => exact un.keep b o e q (by intro z; exact absurd (show b ∈ ([] : List Addr) from z) (by simp)) (by simp)
      | some u =>
        obtain ⟨rfl, _, rfl⟩ := topH_some q
        rw [ha] at e
        cases e
        exact (hok' b _ (un.frzs b _ _ q)).1
/-- THE TOP: the goal that k_head leaves, from the law's def -/
theorem top_walk {l : PySem.W.OpenLaw} {n k : Nat} {q : Program} {loose : List Str} {XP : (Str → Option Value) → Heap → Prop} {YP : World → Heap → Prop} {d : DefRec} {K : Params → PySem.W.Frag} {x : Str} {run : World → List Int → Option SR}
    (hn : l.most = some n) (hn2 : n ≤ lim) (hdf : d.params.defaults = []) (hr : Room k callerA)
    (hY : ∀ (w : World) (h : Heap), YP w h → (K w.params).In h)
    (F : ∀ (w : World) (mg : Str → Option Value) (fa : Addr) (h : Heap), (K w.params).In h → h.Ns mainGlobals mg → mg d.name = some (.ref fa) →
      ∃ fd : FuncData, (∀ (s : Shared) (u : Value), BindsTo s fd ⟨[u], []⟩ [(x, u)]) ∧
        ∀ base : Heap, (K w.params).In base → base.Ns mainGlobals mg → FnG l.prog w (K w.params) mg base k fa fd [x] (spLaw (K w.params) (run w)))
    (hrun : ∀ (w : World) (ns : List Int), ns.length ≤ n → ∃ g, run w ns = some (.ret (.dat (.bool true)) g)) :
    PySem.W.WalkO q loose XP YP l.row.toRowW d [] (fun f vs => PySem.call f vs) := by
  refine Att.attach_call hn hdf fun w s₀ s₁ mg mb fa o pm cd doc a vs ns G Y ho hd hcd hmg hobj hints hlen hg => ?_
  have KX := hY w _ Y
  obtain ⟨fd, hb, hF⟩ := F w mg fa _ KX G.T.g hmg
  exact top_call KX G.T.g G.T.b G.T.builtins G.T.nolimit hg hobj hints (by rw [← lim_eq]; omega) hr hF hb fun H hS => ⟨a, ns, rfl, hS, by omega, hrun w ns hlen, fun _ => rfl⟩
end
end Mp
set_option Elab.async false
set_option linter.all false
set_option maxRecDepth 100000
set_option maxHeartbeats 4000000
set_option autoImplicit false
/-! MpG: the def that tells an exception's class -/
namespace Mp
open PySem PySem.Spec PyProof.Rows L2
section
variable {X : Cx} {a D t : Addr} {oe : Obj}
/-- isinstance(e, c), e the exception that is pinned -/
theorem call_isX (C : L2.ExcC X.K D) (hz : Zx (.ref D) t oe) (hp : (a, oe) ∈ X.pn) : CallR X (.builtin "isinstance") (rIsE X.K D a) := by
  rintro pins s σ H xs us Q I r ⟨c, cv, b, rfl, hcv, e, q⟩
  cases r with
  | cons rx rr => cases rr with
    | cons rt rr =>
      cases rr
      cases rx
      obtain rfl := hcv _ rt
      have P1 := (I.pin (a, oe) (List.mem_append_left _ hp)).1
      obtain ⟨⟨z1, z2⟩, vs, hv, _⟩ := hz
      obtain ⟨oc, od, oda, osl⟩ := oe
      dsimp only at z1 z2 hv
      subst z1 z2 hv
      exact PySem.W.kia_one (PySem.W.handS_kitx_exc C.hg C.hk C.hs C.hd C.ha C.hn C.ht C.hm) I.kIn ⟨P1, rfl, rfl, trivial⟩ e (fun z => nomatch z) fun tk => ⟨.bl b, H, I.kept (t' := tk) fun _ _ z => z, rfl, q⟩
/-- str(e), e made with no argument -/
theorem call_strX (hu : X.A.units + 64 < cLine) (C : ExK X.K D) (hz : Zx (.ref D) t oe) (hp : (a, oe) ∈ X.pn) : CallR X (.type "str") (fun xs H Q => xs = [.ref a] ∧ H t = some (.tup []) ∧ Q (.str Str.empty) H) := by
  rintro pins s σ H xs us Q I r ⟨rfl, ht, q⟩
  obtain ⟨u, rfl, ru⟩ := r.one
  cases ru
  have P1 := (I.pin (a, oe) (List.mem_append_left _ hp)).1
  obtain ⟨⟨z1, z2⟩, vs, hv, h0⟩ := hz
  obtain ⟨_, its, rv, o, ho, hc, n, hd⟩ := I.hok t _ ht
  cases rv
  refine PySem.P.str_of_C_none (by omega) ⟨I.kIn, oe, vs, P1, z1, hv, h0⟩ ⟨o, n, ho, hc, hd⟩ C.st C.isc.hs ⟨.str Str.empty, H, I.tok _, ⟨_, rfl⟩, q⟩
/-- kinds.count(True) -/
theorem mt_cntB (hu : X.A.units + 64 < cLine) : MtR X "list.count" (fun x xs H Q => ∃ (p : Addr) (bs : List Bool), x = .ref p ∧ xs = [.bl true] ∧ H p = some (.lst (bs.map V.bl)) ∧ Q (.int ((bs.countP fun b => b : Nat) : Int)) H) := by
  rintro pins s σ H x xs v us Q I rx rxs ⟨p, bs, rfl, rfl, hp, q⟩
  cases rx
  obtain ⟨u, rfl, ru⟩ := rxs.one
  cases ru
  obtain ⟨hz, its, n, rv, ho⟩ := I.hok p _ hp
  have rd : ∀ {bs : List Bool} {its : List Value}, Vals (bs.map V.bl) its → ∃ as, ReadsAll s.heap its (bs.map PyData.bool) as := by
    intro bs
    induction bs with
    | nil => intro its r; cases r; exact ⟨_, .nil⟩
    | cons b bs ih =>
      intro its r
      cases r with
      | cons r1 r2 => cases r1; obtain ⟨as, h⟩ := ih r2; exact ⟨_, .cons (.bool b) h⟩
  have pl : ∀ bs : List Bool, PyData.plainAll (bs.map PyData.bool) = true := fun bs => by
    induction bs with
    | nil => rfl
    | cons b bs ih => exact ih
  have dp : ∀ bs : List Bool, PyData.depthAll (bs.map PyData.bool) = 0 := fun bs => by
    induction bs with
    | nil => rfl
    | cons b bs ih => simp only [List.map_cons, PyData.depthAll, PyData.depth, ih]; rfl
  obtain ⟨as, rs⟩ := rd rv
  refine SeqAt.count_list_data (l := p) (vs := its.toArray) (xs := bs.map PyData.bool) (d := .bool true) ⟨_, ho, rfl, _, rfl⟩ (by simpa using rs) (.bool true) (pl bs) rfl (by rw [dp]; simp; omega) ?_
  have ec : ((bs.map PyData.bool).countP fun y => PyData.eqv y (.bool true)) = bs.countP fun b => b := by
    rw [List.countP_map]
    congr 1
    funext b
    cases b <;> rfl
  rw [ec]
  exact ⟨.int _, H, I.tok _, ⟨_, rfl⟩, q⟩
end
theorem clsRun_some {c : Nat} {z : Str} (h : clsFn.run [.exc c] [] = some (.ret (.dat (.str z)) [])) : clsTxt c = some z := by
  change (clsTxt c).map _ = _ at h
  cases e : clsTxt c with
  | none => rw [e] at h; cases h
  | some y => rw [e] at h; simp at h; rw [h]
def isiSub (T : Tab) (sc : Scope) (e : Str) : Expr → Option Str
  | .Call (.Name f _) [.Name x _, .Name c _] [] _ => if bC T sc f "isinstance" && decide (x = e) && glC sc c && dbg c then some c else none
  | _ => none
theorem isiSub_eq {T : Tab} {sc : Scope} {e c : Str} {a : Expr} (h : isiSub T sc e a = some c) : ∃ f p p2 p3 p4, a = .Call (.Name f p) [.Name e p2, .Name c p3] [] p4 ∧ bC T sc f "isinstance" = true ∧ glC sc c = true ∧ dbg c = true := by
  unfold isiSub at h
  split at h
  · split at h
    · next z =>
      cases h
      simp only [Bool.and_eq_true, decide_eq_true_eq] at z
      obtain ⟨⟨⟨z1, rfl⟩, z3⟩, z4⟩ := z
      exact ⟨_, _, _, _, _, rfl, z1, z3, z4⟩
    · cases h
  · cases h
def klsC (T : Tab) (sc : Scope) (e : Str) (a : Expr) (c : Nat) : Bool := match isiSub T sc e a with
  | some x => T.exs.contains (x, c)
  | none => false
def klsOk (T : Tab) (sc : Scope) (e k : Str) : List Stmt → Bool
  | [.Assign [.Name k1 _] (.List [a1, a2, a3, a4, a5] _) _,
     .If (.BoolOp .Or [.Compare (.Call (.Attribute (.Name k2 _) cn ap) [.Constant (.bool true) _ _] [] cp) [.NotEq] [.Constant (.int 1) _ _] _, .UnaryOp .Not (.Call (.Name f1 _) [.Name x1 _, .Name v1 _] [] _) _, .Compare (.Call (.Name st _) [.Name x2 _] [] _) [.NotEq] [.Constant (.str s0) _ _] _] _) [.Return (some (.Constant (.str _) _ _)) _] [] _,
     .Return (some (.Subscript (.List [.Constant (.str z1) _ _, .Constant (.str z2) _ _, .Constant (.str z3) _ _, .Constant (.str z4) _ _, .Constant (.str z5) _ _] _) (.Call (.Attribute (.Name k3 _) ix ap2) [.Constant (.bool true) _ _] [] cp2) _)) _] =>
    decide (k1 = k) && decide (k2 = k) && decide (k3 = k) && decide (x1 = e) && decide (x2 = e) && decide (cn = "count") && decide (ix = "index") && decide (s0 = "") && bC T sc f1 "isinstance" && bC T sc st "str" && bC T sc v1 "ValueError" &&
    klsC T sc e a1 1 && klsC T sc e a2 2 && klsC T sc e a3 3 && klsC T sc e a4 4 && klsC T sc e a5 5 && (ap.endLine == cp.line) && (ap2.endLine == cp2.line) && decide (z1 = "system") && decide (z2 = "watcher") && decide (z3 = "question") && decide (z4 = "path") && decide (z5 = "much") &&
    decide (sc.names.lookup e = some .local) && decide (sc.names.lookup k = some .local) && dbg e && dbg k && decide (5 < T.nx)
  | _ => false
section
variable {T : Tab} {Fs : Nat → Fn} {cl : Nat → Addr} {P : Program} {w : World} {K : PySem.W.Frag} {mg : Str → Option Value} {base : Heap} {nf : Nat}
/-- THE RULE of such a def, by its body -/
theorem fn_ofX {k : Nat} {f : Addr} {name qual : Str} {params : Arguments} {body : List Stmt} {scope : Scope} {dV kV doc pm cdv ct oc : Value} {an od : Option Addr} {osl : Array (Option Value)} {N ps : List Str} {F : Fn}
    (lk : K.lookup f = some ⟨oc, od, .func (PySem.W.fnOf name qual params body scope dV kV doc pm an cdv ct), osl⟩) (hcd : PySem.W.codeIn K cdv qual = true) (S : FnScope N ps scope) (h1 : ps.length = 1)
    (hbody : ∀ (A : Around) (outer : List Env) (s : Shared) (H : Hp) (Q : VK) (E : XK) (e t : Addr) (oe : Obj) (c : Nat) (x : Str), L2H.RoomH k (A.deeper (envOfC qual scope s.heap.objs.size f cdv)) → Zx (.ref (cl c)) t oe → H t = some (.tup []) → F.run [.exc c] [] = some (.ret (.dat (.str x)) []) →
      (∀ H', Same H H' → Q (.str x) H') → ∃ tt, PSs (L2H.cxH (Mp.CX P w) P w K mg base N qual scope f cdv A outer s H E (e, oe)) body tt ∧ tt { nx := fun _ H' => Q .non H', rt := Q } (L2.start N [.ref e]) H) :
    FnX P w K mg base (k + 1) cl f (PySem.W.fnOf name qual params body scope dV kV doc pm an cdv ct) ps F := by
  refine ⟨h1, fun A outer s H args e t oe c x Q E hr pin hz ht hrun e0 hb hq => ?_⟩
  have r : Vals [V.ref e] [Value.ref e] := .cons rfl .nil
  have hl : [V.ref e].length = ps.length := h1.symm
  have KX : K.In s.heap := e0.mod.kin.keeps fun b o z => (e0.bs b o z).1
  have lim : s.heap.NoLimit := e0.mod.nolimit.keeps fun b o z => (e0.bs b o z).1
  have hkind : ∀ y ∈ ps.zip [Value.ref e], scope.names.lookup y.1 = some .local ∨ (scope.names.lookup y.1 = some .cell ∧ ((cellsFrom (s.heap.objs.size + 1) scope.names []).lookup y.1).isSome = true) := fun y hy => by
    rcases S.par y.1 (List.of_mem_zip (show (y.1, y.2) ∈ _ from hy)).1 with q | q
    · exact .inl q
    · exact .inr ⟨q, PySem.W.cellsFrom_some _ _ _ (.inl q)⟩
  refine codeAny_call_function hr.depth (KX _ _ lk) rfl S.co S.gen rfl (PySem.W.codeRec_of KX hcd) (hb _ _ _ _ ?_)
  refine wpAny_newFunctionEnv_cells S.kind hkind fun env he s1 y => ?_
  subst he
  refine ⟨lim.keeps y.toInCall.keep, codeAny_func ?_⟩
  obtain ⟨tt, htt, q⟩ := hbody A outer s H Q E e t oe c x (hr.deeper _) hz ht hrun hq
  have I : Inv (L2H.cxH (Mp.CX P w) P w K mg base N qual scope f cdv A outer s H E (e, oe)) [] (L2.start N [.ref e]) H s1 := L2H.inv_startH S pin e0 hl r y
  refine wpAny_mono (htt.run [] s1 _ H _ I q) (fun fl s' hs => ?_) fun _ _ z => z
  have fin : ∀ {σ' : L2.St} {H' : Hp} {v : V} {u : Value}, Inv (L2H.cxH (Mp.CX P w) P w K mg base N qual scope f cdv A outer s H E (e, oe)) [] σ' H' s' → RelV v u → Q v H' → CE outer P w H s Q u s' :=
    fun J rv q => ⟨_, _, J.os, J.bare, J.base, J.hok, rv, q⟩
  cases fl with
  | ret u => obtain ⟨v, σ', H', J, rv, q⟩ := hs; exact fin J rv q
  | next => obtain ⟨σ', H', J, q⟩ := hs; exact fin (v := V.non) (u := Value.none) J rfl q
  | brk => obtain ⟨_, _, _, q⟩ := hs; exact False.elim q
  | cont => obtain ⟨_, _, _, q⟩ := hs; exact False.elim q
theorem klsC_eq {sc : Scope} {e : Str} {a : Expr} {c : Nat} (h : klsC T sc e a c = true) : ∃ x f p p2 p3 p4, a = .Call (.Name f p) [.Name e p2, .Name x p3] [] p4 ∧ bC T sc f "isinstance" = true ∧ glC sc x = true ∧ dbg x = true ∧ (x, c) ∈ T.exs := by
  unfold klsC at h
  split at h
  · next x hx =>
    obtain ⟨f, p, p2, p3, p4, rfl, h1, h2, h3⟩ := isiSub_eq hx
    exact ⟨x, f, p, p2, p3, p4, rfl, h1, h2, h3, by simpa using h⟩
  · cases h
theorem Facts.klsG (F : Facts T Fs cl P w K mg base nf) {x : Str} {st : Stmt} {f : Addr} {fd : FuncData} {e k : Str} (D : C8.Fun K x x st f fd) (S : FnScope [e, k] [e] (C8.fnScope st)) (ok : klsOk T (C8.fnScope st) e k (C8.fnBody st) = true) :
    FnX P w K mg base (nf + 1) cl f fd [e] clsFn := by
  obtain ⟨oc, od, dV, kV, doc, pm, an, cdv, ct, osl, rfl, lk, hcd⟩ := D.ex
  refine fn_ofX lk hcd S rfl fun A outer s H Q E e' t oe c z hr hz ht hrun hq => ?_
  have hc := clsRun_some hrun
  let X : Cx := L2H.cxH (Mp.CX P w) P w K mg base [e, k] x (C8.fnScope st) f cdv A outer s H E (e', oe)
  have hp : (e', oe) ∈ X.pn := List.mem_cons_self
  unfold klsOk at ok
  split at ok
  case h_2 => cases ok
  case h_1 k1 _ a1 a2 a3 a4 a5 _ _ k2 _ cn ap _ _ cp _ _ _ f1 _ x1 _ v1 _ _ _ st2 _ x2 _ _ s0 _ _ _ _ _ _ _ _ _ z1 _ _ z2 _ _ z3 _ _ z4 _ _ z5 _ _ _ k3 _ ix ap2 _ _ cp2 _ _ hbody =>
    simp only [Bool.and_eq_true, decide_eq_true_eq] at ok
    obtain ⟨⟨⟨⟨⟨⟨⟨⟨⟨⟨⟨⟨⟨⟨⟨⟨⟨⟨⟨⟨⟨⟨⟨⟨⟨⟨⟨e1, e2⟩, e3⟩, e4⟩, e5⟩, e6⟩, e7⟩, e8⟩, b1⟩, b2⟩, b3⟩, c1⟩, c2⟩, c3⟩, c4⟩, c5⟩, l1⟩, l2⟩, w1⟩, w2⟩, w3⟩, w4⟩, w5⟩, n1⟩, n2⟩, g1⟩, g2⟩, hnx⟩ := ok
    obtain rfl := e1.symm
    obtain rfl := e2
    obtain rfl := e3
    obtain rfl := e4
    obtain rfl := e5
    subst e6 e7 e8 w1 w2 w3 w4 w5
    rw [hbody]
    have hc5 : c ≤ 5 := by
      unfold clsTxt at hc
      split at hc <;> first | omega | cases hc
    have hcn : c < T.nx := by omega
    have EK := F.exk c hcn
    have hu : X.A.units + 64 < cLine := by
      have := hr.un
      show (A.deeper (envOfC x (C8.fnScope st) s.heap.objs.size f cdv)).units + 64 < cLine
      omega
    have gl : ∀ {y : Str}, glC (C8.fnScope st) y = true → Gl X y := fun {y} h => by
      have := of_decide_eq_true h
      exact this
    have bb : ∀ {y z : Str}, bC T (C8.fnScope st) y z = true → y = z ∧ mg z = none ∧ Gl X z := fun {y z} h => by
      unfold bC at h
      simp only [Bool.and_eq_true, decide_eq_true_eq] at h
      obtain ⟨⟨rfl, h2⟩, h3⟩ := h
      exact ⟨rfl, F.blt _ (by simpa using h2), gl h3⟩
    obtain ⟨d1, d2, _⟩ := dbg_ok g1
    obtain ⟨d3, d4, _⟩ := dbg_ok g2
    have v0 : ∀ pos : Pos, PE X (.Name x2 pos) (tVar 0) := fun pos => pe_var rfl (.inl n1) d1 d2
    have v1' : ∀ pos : Pos, PE X (.Name k3 pos) (tVar 1) := fun pos => pe_var rfl (.inl n2) d3 d4
    have isi : ∀ {a : Expr} {j : Nat}, klsC T (C8.fnScope st) x2 a j = true → j < T.nx → PE X a (fun σ H' Q => σ[0]? = some (some (.ref e')) ∧ Q (.bl (j == 0 || c == j)) H') ∧ ns a = true := fun {a j} h hj => by
      obtain ⟨y, f, p, p2, p3, p4, rfl, h1, h2, h3, h4⟩ := klsC_eq h
      obtain ⟨rfl, m1, gl1⟩ := bb h1
      obtain ⟨_, hm, _, _, _⟩ := F.exs _ h4
      refine ⟨⟨fun pins s σ H' Q I ⟨hσ, q⟩ => (pe_callB (call_isX EK.isc hz hp) gl1 m1 boot_isinstance (pa_cons (v0 _) (pa_cons (pe_glob (v := .ref (cl j)) (gl h2) hm rfl (dbg_ok h3).1) pa_nil))).run pins s σ H' Q I ?_⟩, rfl⟩
      exact ⟨_, hσ, .ref (cl j), .ref (cl j), _, rfl, fun u r => r, F.kit c j hcn hj, q⟩
    obtain ⟨i1, s1⟩ := isi c1 (by omega)
    obtain ⟨i2, s2⟩ := isi c2 (by omega)
    obtain ⟨i3, s3⟩ := isi c3 (by omega)
    obtain ⟨i4, s4⟩ := isi c4 (by omega)
    obtain ⟨i5, s5⟩ := isi c5 (by omega)
    obtain ⟨rfl, mi, gi⟩ := bb b1
    obtain ⟨rfl, ms, gs⟩ := bb b2
    obtain ⟨rfl, mv, gv⟩ := bb b3
    have pisv : ∀ p p2 p3 p4 : Pos, PE X (.Call (.Name "isinstance" p) [.Name x2 p2, .Name "ValueError" p3] [] p4) (fun σ H' Q => σ[0]? = some (some (.ref e')) ∧ Q (.bl true) H') := fun p p2 p3 p4 =>
      ⟨fun pins s σ H' Q I ⟨hσ, q⟩ => (pe_callB (call_isX EK.isc hz hp) gi mi boot_isinstance (pa_cons (v0 _) (pa_cons (pe_bltn (v := .ty "ValueError") gv mv (by decide +kernel : bootBuiltins "ValueError" = some (.type "ValueError")) rfl) pa_nil))).run pins s σ H' Q I
        ⟨_, hσ, .ty "ValueError", .type "ValueError", true, rfl, fun u r => r, EK.ve, q⟩⟩
    refine ⟨_, pss_cons (ps_set (i := 1) (X := X) S.nd rfl (.inl n2) (pe_lst (pa_cons i1 (pa_cons i2 (pa_cons i3 (pa_cons i4 (pa_cons i5 pa_nil (ns_star s5 _ _)) (ns_star s4 _ _)) (ns_star s3 _ _)) (ns_star s2 _ _)) (ns_star s1 _ _))) rfl (.inl rfl))
      (pss_cons (ps_if (PW.pt (pw_or (pt_cmpR op_ne (pe_bm PySem.F.plainAttrs_list PySem.F.slot_list_count PySem.F.type_list_count (mt_cntB hu) (v1' _) (pa_cons pe_bl pa_nil) (hline := l1)) pe_int rfl)
          (pw_or (pt_not (pt_val (pisv _ _ _ _))) (pw_or1 (pt_cmpR op_ne (pe_callTy (call_strX hu EK hz hp) gs ms PyProof.Rows.boot_str (pa_cons (v0 _) pa_nil)) pe_str rfl))))) (pss_one (ps_ret pe_str)) pss_nil)
      (pss_one (ps_ret (pe_ix ix_list (pe_lst (pa_cons pe_str (pa_cons pe_str (pa_cons pe_str (pa_cons pe_str (pa_cons pe_str pa_nil)))))) (pe_bm PySem.F.plainAttrs_list PySem.F.slot_list_index PySem.F.type_list_index mt_index (v1' _) (pa_cons pe_bl pa_nil) (hline := l2)) (fun _ _ => rfl))))), ?_⟩
    have h5 : 5 ≤ sizeLine := by rw [sizeLine_eq]; decide
    have h0 : (L2.start [x2, k3] [V.ref e'])[0]? = some (some (V.ref e')) := rfl
    refine ⟨h0, h0, h0, h0, h0, h5, fun p hpn => ?_⟩
    have hσ1 : ((L2.start [x2, k3] [V.ref e']).set 1 (some (V.ref p)))[1]? = some (some (V.ref p)) := rfl
    have hσ0 : ((L2.start [x2, k3] [V.ref e']).set 1 (some (V.ref p)))[0]? = some (some (V.ref e')) := rfl
    obtain ⟨bs, hbs⟩ : ∃ bs : List Bool, bs = [c == 1, c == 2, c == 3, c == 4, c == 5] := ⟨_, rfl⟩
    have hl : upd H p (.lst [V.bl (1 == 0 || c == 1), V.bl (2 == 0 || c == 2), V.bl (3 == 0 || c == 3), V.bl (4 == 0 || c == 4), V.bl (5 == 0 || c == 5)]) p = some (.lst (bs.map V.bl)) := by rw [upd_same, hbs]; rfl
    have hcnt : bs.countP (fun b => b) = 1 ∧ ∃ j : Nat, bs[j]? = some true ∧ (∀ m, m < j → bs[m]? = some false) ∧ j < 5 ∧ [("system" : Str), "watcher", "question", "path", "much"][j]? = some z := by
      subst hbs
      unfold clsTxt at hc
      split at hc <;> first | (cases hc; done) | skip
      all_goals cases hc
      · exact ⟨rfl, 0, rfl, by omega, by omega, rfl⟩
      · exact ⟨rfl, 1, rfl, fun m hm => by obtain rfl : m = 0 := by omega
                                           rfl, by omega, rfl⟩
      · exact ⟨rfl, 2, rfl, fun m hm => by rcases (by omega : m = 0 ∨ m = 1) with rfl | rfl <;> rfl, by omega, rfl⟩
      · exact ⟨rfl, 3, rfl, fun m hm => by rcases (by omega : m = 0 ∨ m = 1 ∨ m = 2) with rfl | rfl | rfl <;> rfl, by omega, rfl⟩
      · exact ⟨rfl, 4, rfl, fun m hm => by rcases (by omega : m = 0 ∨ m = 1 ∨ m = 2 ∨ m = 3) with rfl | rfl | rfl | rfl <;> rfl, by omega, rfl⟩
    obtain ⟨h1c, j, hj, hjm, hj5, hjz⟩ := hcnt
    have htp : upd H p (.lst [V.bl (1 == 0 || c == 1), V.bl (2 == 0 || c == 2), V.bl (3 == 0 || c == 3), V.bl (4 == 0 || c == 4), V.bl (5 == 0 || c == 5)]) t = some (.tup []) := by
      rw [upd_ne (ne_of_none ht hpn)]; exact ht
    refine ⟨V.ref p, hσ1, .inl ⟨rfl, _, .of hl⟩, p, bs, rfl, rfl, hl, rfl, ?_⟩
    rw [h1c]
    refine ⟨false, rfl, ?_⟩
    refine iteF ⟨hσ0, true, rfl, ?_⟩
    refine iteF ⟨_, hσ0, rfl, htp, rfl, false, rfl, ?_⟩
    refine iteF ⟨h5, fun q hqn => ⟨V.ref p, hσ1, ?_⟩⟩
    have hq1 : p ≠ q := ne_of_none hl hqn
    have hl2 : (upd (upd H p (.lst [V.bl (1 == 0 || c == 1), V.bl (2 == 0 || c == 2), V.bl (3 == 0 || c == 3), V.bl (4 == 0 || c == 4), V.bl (5 == 0 || c == 5)])) q (.lst [V.str "system", V.str "watcher", V.str "question", V.str "path", V.str "much"])) p = some (.lst (bs.map V.bl)) := by rw [upd_ne hq1]; exact hl
    have hs5 : bs.length = 5 := by rw [hbs]; rfl
    refine ⟨.inl ⟨rfl, _, .of hl2⟩, p, bs.map V.bl, .bl true, j, .bl true, rfl, rfl, .of hl2, rfl, ?_, by rw [List.getElem?_map, hj]; rfl, rfl, fun m z' hm hz' => ?_, ?_⟩
    · rw [List.all_map]; exact List.all_eq_true.mpr fun b _ => rfl
    · rw [List.getElem?_map, hjm m hm] at hz'
      cases hz'
      rfl
    · refine ⟨q, _, (j : Nat), .str z, rfl, rfl, .of upd_same, ?_, ?_⟩
      · rcases (by omega : j = 0 ∨ j = 1 ∨ j = 2 ∨ j = 3 ∨ j = 4) with rfl | rfl | rfl | rfl | rfl <;> cases hjz <;> rfl
      · refine hq _ fun b o e => ?_
        rw [upd_ne, upd_ne]
        · exact e
        · rintro rfl; rw [e] at hpn; cases hpn
        · rintro rfl
          have : upd H p (.lst [V.bl (1 == 0 || c == 1), V.bl (2 == 0 || c == 2), V.bl (3 == 0 || c == 3), V.bl (4 == 0 || c == 4), V.bl (5 == 0 || c == 5)]) b = some o := by
            rw [upd_ne (ne_of_none e hpn)]; exact e
          rw [this] at hqn; cases hqn
end
end Mp
set_option Elab.async false
set_option linter.all false
set_option maxRecDepth 100000
set_option maxHeartbeats 4000000
set_option autoImplicit false
/-! MpH: the facts of a head, gathered def by def -/
namespace Mp
open PySem PySem.Spec PyProof.Rows L2
/-- a def of the text, as it stands in the written part -/
structure DefAt (K : PySem.W.Frag) (x : Str) (st : Stmt) (ps : List Str) : Prop where
  ex : ∃ (f : Addr) (oc : Value) (od : Option Addr) (kV doc pm : Value) (an : Option Addr) (cdv ct : Value) (osl : Array (Option Value)), PySem.W.nsIn K mainGlobals x = some (some (.ref f)) ∧
    K.lookup f = some ⟨oc, od, .func (PySem.W.fnOf x x (C8.fnArgs st) (C8.fnBody st) (C8.fnScope st) .none kV doc pm an cdv ct), osl⟩ ∧ PySem.W.codeIn K cdv x = true ∧ PySem.W.keepIn K (.ref f) = true
  bind : ∀ (kV doc pm : Value) (an : Option Addr) (cdv ct : Value) (us : List Value), us.length = ps.length → bindArgs (PySem.W.fnOf x x (C8.fnArgs st) (C8.fnBody st) (C8.fnScope st) .none kV doc pm an cdv ct) ⟨us, []⟩ = pure (ps.zip us)
theorem DefAt.mk' {K : PySem.W.Frag} {x : Str} {st : Stmt} {ps : List Str} {f : Addr} {oc : Value} {od : Option Addr} {kV doc pm : Value} {an : Option Addr} {cdv ct : Value} {osl : Array (Option Value)} (h1 : PySem.W.nsIn K mainGlobals x = some (some (.ref f)))
    (h2 : K.lookup f = some ⟨oc, od, .func (PySem.W.fnOf x x (C8.fnArgs st) (C8.fnBody st) (C8.fnScope st) .none kV doc pm an cdv ct), osl⟩) (h3 : PySem.W.codeIn K cdv x = true) (h4 : PySem.W.keepIn K (.ref f) = true)
    (hb : ∀ (kV doc pm : Value) (an : Option Addr) (cdv ct : Value) (us : List Value), us.length = ps.length → bindArgs (PySem.W.fnOf x x (C8.fnArgs st) (C8.fnBody st) (C8.fnScope st) .none kV doc pm an cdv ct) ⟨us, []⟩ = pure (ps.zip us)) : DefAt K x st ps :=
  ⟨⟨f, oc, od, kV, doc, pm, an, cdv, ct, osl, h1, h2, h3, h4⟩, hb⟩
theorem byK {b : Bool} (h : b = true) : b = true := h
abbrev veMro : List Value := [.type "ValueError", .type "Exception", .type "BaseException", .type "object"]
def isRef : Option (Option Value) → Option Addr
  | some (some (.ref a)) => some a
  | _ => none
/-- the class named so -/
def clK (K : PySem.W.Frag) (xs : List Str) (j : Nat) : Addr := ((xs[j]?).bind fun x => isRef (PySem.W.nsIn K mainGlobals x)).getD 0
/-- what an own exception class must say -/
def excB (K : PySem.W.Frag) (C : Addr) : Bool :=
  PySem.W.excIn K C veMro "ValueError.__new__" && PySem.W.keepIn K (.ref C) && (PySem.W.subIn K (.ref C) (.type "BaseException") == some true) && (PySem.W.typeIn K (.ref C) == some (.type "type")) &&
  (PySem.W.findIn K (.ref C) "__getattribute__" == some (some (.builtin "BaseException.__getattribute__"))) && (PySem.W.findIn K (.ref C) "__getattr__" == some none) && PySem.W.hasDictIn K C &&
  (PySem.W.findIn K (.ref C) "__class__" == some (some (.builtin "object.__class__"))) && (PySem.W.specialIn K (.builtin "object.__class__") "__get__" == some (some (.builtin "getset_descriptor.__get__"))) && (PySem.W.takesIn K (.builtin "object.__class__") == some true) &&
  (PySem.W.mroIn K C (.type "object") == some true) && (PySem.W.findIn K (.ref C) "__str__" == some (some (.builtin "BaseException.__str__"))) && (PySem.W.kitOne K (.ref C) (.type "ValueError") == some true)
def clsB (K : PySem.W.Frag) (xs : List Str) : Bool := (List.range xs.length).all fun a => (isRef ((xs[a]?).bind fun x => PySem.W.nsIn K mainGlobals x)).isSome && excB K (clK K xs a) && (List.range xs.length).all fun b =>
  (PySem.W.exmOne K (.ref (clK K xs a)) (.ref (clK K xs b)) == some (b == 0 || a == b)) && (PySem.W.kitOne K (.ref (clK K xs a)) (.ref (clK K xs b)) == some (b == 0 || a == b))
/-- names of the module: constants, built-ins -/
def cstB (K : PySem.W.Frag) (l : List (Str × Int)) : Bool := l.all fun p => match PySem.W.nsIn K mainGlobals p.1 with
  | some (some (.int i _)) => decide (i = p.2)
  | _ => false
def bltB (K : PySem.W.Frag) (l : List Str) : Bool := l.all fun x => match PySem.W.nsIn K mainGlobals x with
  | some none => true
  | _ => false
def tabB (T : Tab) (K : PySem.W.Frag) (xs : List Str) : Bool := clsB K xs && cstB K T.cst && bltB K T.blt && decide (T.nx = xs.length) && T.exs.all fun p => decide (xs[p.2]? = some p.1)
section
variable {T : Tab} {Fs : Nat → Fn} {cl : Nat → Addr} {P : Program} {w : World} {K : PySem.W.Frag} {mg : Str → Option Value} {base : Heap} {nf : Nat}
theorem excB_ok {C : Addr} (h : excB K C = true) : (∃ (bmB : List Value) (B newId initId : String), ExcBaseFacts B newId initId bmB ∧ PySem.W.excIn K C bmB newId = true) ∧ PySem.W.keepIn K (.ref C) = true ∧ PySem.W.subIn K (.ref C) (.type "BaseException") = some true ∧ PySem.W.typeIn K (.ref C) = some (.type "type") ∧ ExK K C := by
  unfold excB at h
  simp only [Bool.and_eq_true, beq_iff_eq] at h
  obtain ⟨⟨⟨⟨⟨⟨⟨⟨⟨⟨⟨⟨h1, h2⟩, h3⟩, h4⟩, h5⟩, h6⟩, h7⟩, h8⟩, h9⟩, h10⟩, h11⟩, h12⟩, h13⟩ := h
  exact ⟨⟨_, _, _, _, PySem.F.excBase_ValueError, h1⟩, h2, h3, h4, ⟨h5, h6, h3, h7, h8, h9, h10, h11⟩, h12, h13⟩
/-- the facts at the start: no def yet -/
theorem Facts.zero {xs : List Str} {h : Heap} (X : K.In h) (G : h.Ns mainGlobals mg) (hT : tabB T K xs = true) (hk : T.kls = []) : Facts T Fs (clK K xs) P w K mg base 0 := by
  unfold tabB at hT
  simp only [Bool.and_eq_true, decide_eq_true_eq, List.all_eq_true] at hT
  obtain ⟨⟨⟨⟨h1, h2⟩, h3⟩, h4⟩, h5⟩ := hT
  have hc : ∀ a < T.nx, excB K (clK K xs a) = true ∧ (∃ x, xs[a]? = some x ∧ PySem.W.nsIn K mainGlobals x = some (some (.ref (clK K xs a)))) ∧ ∀ b < T.nx, PySem.W.exmOne K (.ref (clK K xs a)) (.ref (clK K xs b)) = some (b == 0 || a == b) ∧ PySem.W.kitOne K (.ref (clK K xs a)) (.ref (clK K xs b)) = some (b == 0 || a == b) := by
    intro a ha
    rw [h4] at ha
    unfold clsB at h1
    have h1' := List.all_eq_true.mp h1 a (List.mem_range.mpr ha)
    simp only [Bool.and_eq_true] at h1'
    obtain ⟨⟨q1, q2⟩, q3⟩ := h1'
    refine ⟨q2, ?_, fun b hb => ?_⟩
    · cases e : xs[a]? with
      | none => rw [e] at q1; simp [isRef] at q1
      | some x =>
        rw [e] at q1
        refine ⟨x, rfl, ?_⟩
        unfold clK
        rw [e]
        simp only [Option.bind_some] at q1 ⊢
        obtain ⟨y, hy⟩ := Option.isSome_iff_exists.mp q1
        rw [hy]
        unfold isRef at hy
        split at hy
        · next z hz => rw [hz]; simp at hy; simp [hy]
        · cases hy
    · rw [h4] at hb
      have := List.all_eq_true.mp q3 b (List.mem_range.mpr hb)
      simp only [Bool.and_eq_true, beq_iff_eq] at this
      exact this
  have hx : ∀ p ∈ T.exs, p.2 < T.nx ∧ xs[p.2]? = some p.1 := fun p hp => by
    have := h5 p hp
    exact ⟨by rw [h4]; exact (List.getElem?_eq_some_iff.mp this).1, this⟩
  exact {
    blt := fun x hx => by
      have := List.all_eq_true.mp h3 x hx
      split at this
      · next e =>
        have L := PySem.W.mg_none_of X G e
        exact L
      · cases this
    cst := fun p hp => by
      have := List.all_eq_true.mp h2 p hp
      split at this
      · next i t e => have := of_decide_eq_true this; exact ⟨t, by rw [← this]; exact PySem.W.mg_of X G e⟩
      · cases this
    exs := fun p hp => by
      obtain ⟨q1, q2⟩ := hx p hp
      obtain ⟨e1, ⟨x, e2, e3⟩, _⟩ := hc p.2 q1
      obtain ⟨f1, f2, f3, f4, _⟩ := excB_ok e1
      rw [q2] at e2
      obtain rfl := Option.some.inj e2
      exact ⟨f1, PySem.W.mg_of X G e3, f2, f3, f4⟩
    kls := fun p hp => by rw [hk] at hp; cases hp
    exm := fun a b ha hb => ((hc a ha).2.2 b hb).1
    kit := fun a b ha hb => ((hc a ha).2.2 b hb).2
    exk := fun a ha => (excB_ok (hc a ha).1).2.2.2.2
    fn := fun f x ps hf => by omega }
theorem ofL_app {l : List Fn} {F : Fn} {f : Nat} (h : f < l.length) : ofL (l ++ [F]) f = ofL l f := by
  unfold ofL
  rw [List.getD_eq_getElem?_getD, List.getD_eq_getElem?_getD, List.getElem?_append_left h]
theorem ofL_last {l : List Fn} {F : Fn} : ofL (l ++ [F]) l.length = F := by
  unfold ofL
  rw [List.getD_eq_getElem?_getD, List.getElem?_append_right (Nat.le_refl _)]
  simp
theorem FnX.mono {j k : Nat} {f : Addr} {fd : FuncData} {ps : List Str} {F : Fn} (X : FnX P w K mg base j cl f fd ps F) (h : j ≤ k) : FnX P w K mg base k cl f fd ps F :=
  ⟨X.len, fun A outer s H args e t oe c x Q E hr => X.run A outer s H args e t oe c x Q E (hr.mono h)⟩
theorem DefAt.get {x : Str} {st : Stmt} {ps : List Str} {h : Heap} (D : DefAt K x st ps) (X : K.In h) (G : h.Ns mainGlobals mg) : ∃ (f : Addr) (fd : FuncData), mg x = some (.ref f) ∧ PySem.W.keepIn K (.ref f) = true ∧ C8.Fun K x x st f fd ∧ Binds K fd ps [] := by
  obtain ⟨f, oc, od, kV, doc, pm, an, cdv, ct, osl, h1, h2, h3, h4⟩ := D.ex
  have F : C8.Fun K x x st f (PySem.W.fnOf x x (C8.fnArgs st) (C8.fnBody st) (C8.fnScope st) .none kV doc pm an cdv ct) := ⟨⟨oc, od, _, kV, doc, pm, an, cdv, ct, osl, rfl, h2, h3⟩⟩
  exact ⟨f, _, PySem.W.mg_of X G h1, h4, F, F.binds rfl D.bind⟩
/-- one more def -/
theorem Facts.more {l : List Fn} {F' : Fn} {x : Str} {ps : List Str} {f : Addr} {fd : FuncData} (F : Facts T (ofL l) cl P w K mg base l.length) (hk : ∀ p ∈ T.kls, p.1 < l.length) (hn : T.fns[l.length]? = some (x, ps)) (hm : mg x = some (.ref f)) (hkp : PySem.W.keepIn K (.ref f) = true) (hb : Binds K fd ps [])
    (G : FnG P w K mg base (l.length + 1) f fd ps (spOf w cl F')) : Facts T (ofL (l ++ [F'])) cl P w K mg base (l ++ [F']).length := by
  have el : (l ++ [F']).length = l.length + 1 := by simp
  rw [el]
  exact {
    blt := F.blt
    cst := F.cst
    exs := F.exs
    kls := fun p hp => by
      obtain ⟨a, fd, ps, h1, h2, h3, h4⟩ := F.kls p hp
      refine ⟨a, fd, ps, h1, h2, h3, ?_⟩
      rw [ofL_app (hk p hp)]
      exact h4.mono (Nat.le_succ _)
    exm := F.exm
    kit := F.kit
    exk := F.exk
    fn := fun g y qs hg e => by
      by_cases z : g < l.length
      · obtain ⟨a, fd, h1, h2, h3, h4⟩ := F.fn g y qs z e
        refine ⟨a, fd, h1, h2, h3, ?_⟩
        rw [ofL_app z]
        exact h4.mono (Nat.le_succ _)
      · obtain rfl : g = l.length := by omega
        rw [hn] at e
        cases e
        rw [ofL_last]
        exact ⟨f, fd, hm, hkp, hb, G⟩ }
/-- .. of our own kind -/
theorem Facts.plain {l l' : List Fn} {x : Str} {st : Stmt} {N ps : List Str} {n : Nat} {B : Ss} {h : Heap} (pu : Bool) (F : Facts T (ofL l) cl P w K mg base l.length) (hl : l' = l ++ [⟨pu, ps.length, fnRun (ofL l) n B⟩]) (hN : N.length = n) (X : K.In h) (G : h.Ns mainGlobals mg) (hk : ∀ p ∈ T.kls, p.1 < l.length) (hn : T.fns[l.length]? = some (x, ps)) (D : DefAt K x st ps) (S : FnScope N ps (C8.fnScope st))
    (ok : okSs T l.length N (C8.fnScope st) B (C8.fnBody st) = true) : Facts T (ofL l') cl P w K mg base l'.length := by
  obtain ⟨f, fd, h1, h2, h3, h4⟩ := D.get X G
  subst hl hN
  exact F.more hk hn h1 h2 h4 (F.fnG h3 S pu ok)
/-- a def that our evaluator never runs -/
theorem Facts.void {l l' : List Fn} {x : Str} {st : Stmt} {ps : List Str} {h : Heap} (F : Facts T (ofL l) cl P w K mg base l.length) (hl : l' = l ++ [vd]) (X : K.In h) (G : h.Ns mainGlobals mg) (hk : ∀ p ∈ T.kls, p.1 < l.length) (hn : T.fns[l.length]? = some (x, ps)) (D : DefAt K x st ps) :
    Facts T (ofL l') cl P w K mg base l'.length := by
  obtain ⟨f, fd, h1, h2, h3, h4⟩ := D.get X G
  subst hl
  refine F.more hk hn h1 h2 h4 ⟨fun vs H Q E h => ?_, fun A outer s H args us vs Q E _ _ _ _ _ h => ?_⟩
  · obtain ⟨_, _, _, _, _, _, _, z⟩ := h; exact z.elim
  · obtain ⟨_, _, _, _, _, _, _, z⟩ := h; exact z.elim
theorem ArgsR.only {w : World} {W : Wd} {H : Hp} {vs : List V} {svs : List SV} (a : ArgsR w W H vs svs) (h : svs.length = 1) : ∃ sv, svs = [sv] ∧ ∀ c, sv ≠ .exc c := by
  cases a with
  | nil => cases h
  | @cons v sv vs svs a t =>
    cases t with
    | cons _ _ => simp at h
    | nil => exact ⟨sv, rfl, fun c e => by subst e; exact a⟩
/-- the def that tells the class stands first -/
theorem Facts.first {x : Str} {st : Stmt} {e k : Str} {h : Heap} (F : Facts { T with kls := [] } (ofL []) cl P w K mg base 0) (X : K.In h) (G : h.Ns mainGlobals mg) (hT : T.kls = [(0, x)]) (hn : T.fns[0]? = some (x, [e])) (D : DefAt K x st [e]) (S : FnScope [e, k] [e] (C8.fnScope st))
    (ok : klsOk { T with kls := [] } (C8.fnScope st) e k (C8.fnBody st) = true) : Facts T (ofL [clsFn]) cl P w K mg base [clsFn].length := by
  obtain ⟨f, fd, h1, h2, h3, h4⟩ := D.get X G
  have GX := F.klsG h3 S ok
  exact {
    blt := F.blt
    cst := F.cst
    exs := F.exs
    kls := fun p hp => by
      rw [hT] at hp
      obtain rfl : p = (0, x) := by simpa using hp
      exact ⟨f, fd, [e], h1, h2, h4, GX⟩
    exm := F.exm
    kit := F.kit
    exk := F.exk
    fn := fun g y qs hg e' => by
      obtain rfl : g = 0 := by simpa using hg
      rw [hn] at e'
      cases e'
      refine ⟨f, fd, h1, h2, h4, ⟨fun vs H Q E hs => ?_, fun A outer s H args us vs Q E _ _ _ _ _ hs => ?_⟩⟩
      all_goals
        obtain ⟨W0, svs, gg, hl, _, ar, _, z⟩ := hs
        obtain ⟨sv, rfl, hx⟩ := ar.only (by rw [hl]; rfl)
        have hr : (ofL [clsFn] 0).run [sv] gg = none := by
          show clsRun [sv] = none
          cases sv with
          | exc c => exact absurd rfl (hx c)
          | _ => rfl
        rw [hr] at z
        exact z.elim }
/-- THE END: the law's def -/
theorem law_end {T : Tab} {l : List Fn} {fa : Addr} {h : Heap} {stl stb : Stmt} {y bx z0 zx : Str} {N : List Str} {i : Nat} {B : Ss} (X : K.In h) (G : h.Ns mainGlobals mg) (hfa : mg "law" = some (.ref fa)) (Dl : DefAt K "law" stl [y]) (Db : DefAt K bx stb [z0])
    (hF0 : ∀ base, K.In base → base.Ns mainGlobals mg → Facts { T with kls := [] } (ofL []) cl P w K mg base 0) (hF : ∀ base, K.In base → base.Ns mainGlobals mg → Facts T (ofL l) cl P w K mg base l.length)
    (Sb : FnScope [z0, zx] [z0] (C8.fnScope stb)) (okb : boxSub { T with kls := [] } (C8.fnScope stb) z0 zx (C8.fnBody stb) = true) (Sl : FnScope N [y] (C8.fnScope stl)) (okl : lawOk T l.length N (C8.fnScope stl) bx y i B (C8.fnBody stl) = true) (hl : 1 ≤ l.length) :
    ∃ fd : FuncData, (∀ (s : Shared) (u : Value), BindsTo s fd ⟨[u], []⟩ [(y, u)]) ∧ ∀ base : Heap, K.In base → base.Ns mainGlobals mg → FnG P w K mg base (l.length + 1) fa fd [y] (spLaw K (lawRun (ofL l) N.length i B)) := by
  obtain ⟨f, oc, od, kV, doc, pm, an, cdv, ct, osl, h1, h2, h3, h4⟩ := Dl.ex
  obtain ⟨fb, fdb, b1, b2, b3, b4⟩ := Db.get X G
  have e := hfa.symm.trans (PySem.W.mg_of X G h1)
  cases e
  refine ⟨_, fun s u => .of_eq (Dl.bind kV doc pm an cdv ct [u] rfl), fun base hK hN => ?_⟩
  exact lawG (hF base hK hN) hl b1 b2 b4 (boxG (hF0 base hK hN) b3 Sb okb) ⟨⟨oc, od, _, kV, doc, pm, an, cdv, ct, osl, rfl, h2, h3⟩⟩ Sl okl
end
end Mp
set_option linter.all false
set_option maxRecDepth 100000
/-! Lb: bodies that several laws have, by the places of what they call -/
namespace Mp
open PySem
def B_is_whole : Ss := (.cons (.ret (.and (.op (.isa "int") (.cons (.nm 0) .nil)) (.not (.op (.isa "bool") (.cons (.nm 0) .nil)))))
    .nil)
def B_is_within (i_is_whole : Nat) : Ss := (.cons (.ret (.and (.call i_is_whole (.cons (.fz 0) .nil)) (.chain .le .le (.nm 1) (.nm 0) (.nm 2))))
    .nil)
def B_is_rising (i_is_within : Nat) : Ss := (.cons (.ite (.not (.op (.isa "tuple") (.cons (.nm 0) .nil))) (.cons (.ret (.k (.bool false)))
    .nil) .nil)
    (.cons (.asg 2 (.op .neg (.cons (.k (.int 1)) .nil)))
    (.cons (.for_ (.nm 3) (.seq (.nm 0)) (.cons (.ite (.not (.call i_is_within (.cons (.fz 3) (.cons (.op .add (.cons (.nm 2) (.cons (.k (.int 1)) .nil))) (.cons (.op .sub (.cons (.nm 1) (.cons (.k (.int 1)) .nil))) .nil))))) (.cons (.ret (.k (.bool false)))
    .nil) .nil)
    (.cons (.asg 2 (.fz 3))
    .nil)))
    (.cons (.ret (.k (.bool true)))
    .nil))))
def B_combined : Ss := (.cons (.asg 1 (.lst (.cons (.tup .nil) .nil)))
    (.cons (.for_ (.nm 2) (.seq (.nm 0)) (.cons (.asg 1 (.lc2 [3, 4] (.op .add (.cons (.nm 3) (.cons (.tup (.cons (.fz 4) .nil)) .nil))) (.nm 3) (.seq (.nm 1)) (.nm 4) (.seq (.nm 2)) [4]))
    .nil))
    (.cons (.mv 1)
    .nil)))
def B_is_system (i_is_within i_is_rising : Nat) (g0 g1 : Str) : Ss := (.cons (.ite (.or (.not (.op (.isa "tuple") (.cons (.nm 0) .nil))) (.or (.op .ne (.cons (.op .len (.cons (.nm 0) .nil)) (.cons (.k (.int 3)) .nil))) (.not (.call i_is_within (.cons (.op .idx (.cons (.nm 0) (.cons (.k (.int 0)) .nil))) (.cons (.k (.int 1)) (.cons (.glob g0 (.int 4)) .nil))))))) (.cons (.ret (.k (.bool false)))
    .nil) .nil)
    (.cons (.unp (.tup [(.nm 2), (.nm 3), (.nm 4)]) (.fz 0))
    (.cons (.ite (.or (.not (.op (.isa "tuple") (.cons (.nm 4) .nil))) (.not (.chain .le .le (.k (.int 1)) (.op .len (.cons (.nm 4) .nil)) (.glob g1 (.int 8))))) (.cons (.ret (.k (.bool false)))
    .nil) .nil)
    (.cons (.ite (.or (.not (.call i_is_rising (.cons (.fz 3) (.cons (.op .len (.cons (.nm 4) .nil)) .nil)))) (.not (.nm 3))) (.cons (.ret (.k (.bool false)))
    .nil) .nil)
    (.cons (.for_ (.nm 1) (.seq (.nm 4)) (.cons (.ite (.or (.not (.op (.isa "tuple") (.cons (.nm 1) .nil))) (.or (.op .ne (.cons (.op .len (.cons (.nm 1) .nil)) (.cons (.k (.int 2)) .nil))) (.not (.call i_is_within (.cons (.op .idx (.cons (.nm 1) (.cons (.k (.int 0)) .nil))) (.cons (.k (.int 0)) (.cons (.op .sub (.cons (.nm 2) (.cons (.k (.int 1)) .nil))) .nil))))))) (.cons (.ret (.k (.bool false)))
    .nil) .nil)
    (.cons (.ite (.or (.not (.call i_is_rising (.cons (.op .idx (.cons (.nm 1) (.cons (.k (.int 1)) .nil))) (.cons (.op .len (.cons (.nm 4) .nil)) .nil)))) (.not (.op .idx (.cons (.nm 1) (.cons (.k (.int 1)) .nil))))) (.cons (.ret (.k (.bool false)))
    .nil) .nil)
    .nil)))
    (.cons (.ret (.k (.bool true)))
    .nil))))))
def B_check_system (i_is_system : Nat) : Ss := (.cons (.ite (.not (.call i_is_system (.cons (.fz 0) .nil))) (.cons (.raise 1)
    .nil) .nil)
    .nil)
def B_is_path_of (i_is_within : Nat) : Ss := (.cons (.ite (.or (.not (.op (.isa "tuple") (.cons (.nm 1) .nil))) (.not (.nm 1))) (.cons (.ret (.k (.bool false)))
    .nil) .nil)
    (.cons (.for_ (.nm 2) (.seq (.nm 1)) (.cons (.ite (.not (.call i_is_within (.cons (.fz 2) (.cons (.k (.int 0)) (.cons (.op .sub (.cons (.op .len (.cons (.op .idx (.cons (.nm 0) (.cons (.k (.int 2)) .nil))) .nil)) (.cons (.k (.int 1)) .nil))) .nil))))) (.cons (.ret (.k (.bool false)))
    .nil) .nil)
    .nil))
    (.cons (.ite (.op .nin (.cons (.op .idx (.cons (.nm 1) (.cons (.k (.int 0)) .nil))) (.cons (.op .idx (.cons (.nm 0) (.cons (.k (.int 1)) .nil))) .nil))) (.cons (.ret (.k (.bool false)))
    .nil) .nil)
    (.cons (.for_ (.nm 3) (.rng2 (.k (.int 1)) (.op .len (.cons (.nm 1) .nil))) (.cons (.ite (.op .nin (.cons (.op .idx (.cons (.nm 1) (.cons (.nm 3) .nil))) (.cons (.op .idx (.cons (.op .idx (.cons (.op .idx (.cons (.nm 0) (.cons (.k (.int 2)) .nil))) (.cons (.op .idx (.cons (.nm 1) (.cons (.op .sub (.cons (.nm 3) (.cons (.k (.int 1)) .nil))) .nil))) .nil))) (.cons (.k (.int 1)) .nil))) .nil))) (.cons (.ret (.k (.bool false)))
    .nil) .nil)
    .nil))
    (.cons (.ret (.k (.bool true)))
    .nil)))))
def B_is_path (i_check_system i_is_path_of : Nat) : Ss := (.cons (.ex (.call i_check_system (.cons (.fz 0) .nil)))
    (.cons (.ret (.call i_is_path_of (.cons (.fz 0) (.cons (.fz 1) .nil))))
    .nil))
def B_paths (i_check_system : Nat) (g0 : Str) : Ss := (.cons (.ex (.call i_check_system (.cons (.fz 0) .nil)))
    (.cons (.asg 2 (.lc [4] (.tup (.cons (.fz 4) .nil)) (.nm 4) (.seq (.op .idx (.cons (.nm 0) (.cons (.k (.int 1)) .nil))))))
    (.cons (.for_ (.nm 3) (.rng (.op .sub (.cons (.nm 1) (.cons (.k (.int 1)) .nil)))) (.cons (.asg 2 (.lc2 [5, 6] (.op .add (.cons (.nm 5) (.cons (.tup (.cons (.fz 6) .nil)) .nil))) (.nm 5) (.seq (.nm 2)) (.nm 6) (.seq (.op .idx (.cons (.op .idx (.cons (.op .idx (.cons (.nm 0) (.cons (.k (.int 2)) .nil))) (.cons (.op .idx (.cons (.nm 5) (.cons (.op .neg (.cons (.k (.int 1)) .nil)) .nil))) .nil))) (.cons (.k (.int 1)) .nil)))) [6]))
    .nil))
    (.cons (.ite (.op .gt (.cons (.op .len (.cons (.nm 2) .nil)) (.cons (.glob g0 (.int 5000)) .nil))) (.cons (.raise 5)
    .nil) .nil)
    (.cons (.mv 2)
    .nil)))))
def B_how_many_tuples : Ss := (.cons (.asg 1 (.k (.int 1)))
    (.cons (.for_ (.nm 2) (.seq (.nm 0)) (.cons (.asg 1 (.op .mul (.cons (.nm 1) (.cons (.nm 2) .nil))))
    .nil))
    (.cons (.mv 1)
    .nil)))
def B_is_watcher (i_is_within i_how_many_tuples : Nat) (g0 g1 g2 : Str) : Ss := (.cons (.ite (.or (.not (.op (.isa "tuple") (.cons (.nm 0) .nil))) (.or (.op .ne (.cons (.op .len (.cons (.nm 0) .nil)) (.cons (.k (.int 2)) .nil))) (.or (.not (.op (.isa "tuple") (.cons (.op .idx (.cons (.nm 0) (.cons (.k (.int 0)) .nil))) .nil))) (.not (.chain .le .le (.k (.int 1)) (.op .len (.cons (.op .idx (.cons (.nm 0) (.cons (.k (.int 0)) .nil))) .nil)) (.glob g0 (.int 3))))))) (.cons (.ret (.k (.bool false)))
    .nil) .nil)
    (.cons (.unp (.tup [(.nm 3), (.nm 4)]) (.fz 0))
    (.cons (.for_ (.nm 1) (.seq (.nm 3)) (.cons (.ite (.not (.call i_is_within (.cons (.fz 1) (.cons (.k (.int 1)) (.cons (.glob g1 (.int 4)) .nil))))) (.cons (.ret (.k (.bool false)))
    .nil) .nil)
    .nil))
    (.cons (.ite (.or (.not (.op (.isa "tuple") (.cons (.nm 4) .nil))) (.not (.chain .le .le (.k (.int 1)) (.op .len (.cons (.nm 4) .nil)) (.glob g2 (.int 6))))) (.cons (.ret (.k (.bool false)))
    .nil) .nil)
    (.cons (.for_ (.nm 2) (.seq (.nm 4)) (.cons (.ite (.or (.not (.op (.isa "tuple") (.cons (.nm 2) .nil))) (.op .ne (.cons (.op .len (.cons (.nm 2) .nil)) (.cons (.call i_how_many_tuples (.cons (.fz 3) .nil)) .nil)))) (.cons (.ret (.k (.bool false)))
    .nil) .nil)
    (.cons (.for_ (.nm 5) (.seq (.nm 2)) (.cons (.ite (.not (.call i_is_within (.cons (.fz 5) (.cons (.op .neg (.cons (.k (.int 1)) .nil)) (.cons (.op .sub (.cons (.op .len (.cons (.nm 4) .nil)) (.cons (.k (.int 1)) .nil))) .nil))))) (.cons (.ret (.k (.bool false)))
    .nil) .nil)
    .nil))
    .nil)))
    (.cons (.ret (.k (.bool true)))
    .nil))))))
def B_check_watcher (i_is_watcher : Nat) : Ss := (.cons (.ite (.not (.call i_is_watcher (.cons (.fz 0) .nil))) (.cons (.raise 2)
    .nil) .nil)
    .nil)
def B_place_of : Ss := (.cons (.asg 2 (.k (.int 0)))
    (.cons (.for_ (.tup [(.nm 3), (.nm 4)]) (.zip2 (.fz 0) (.fz 1)) (.cons (.asg 2 (.op .add (.cons (.op .mul (.cons (.nm 2) (.cons (.nm 3) .nil))) (.cons (.nm 4) .nil))))
    .nil))
    (.cons (.mv 2)
    .nil)))
def B_step (i_place_of : Nat) : Ss := (.cons (.ite (.op .lt (.cons (.nm 1) (.cons (.k (.int 0)) .nil))) (.cons (.ret (.op .neg (.cons (.k (.int 1)) .nil)))
    .nil) .nil)
    (.cons (.ret (.op .idx (.cons (.op .idx (.cons (.op .idx (.cons (.nm 0) (.cons (.k (.int 1)) .nil))) (.cons (.nm 1) .nil))) (.cons (.call i_place_of (.cons (.op .idx (.cons (.nm 0) (.cons (.k (.int 0)) .nil))) (.cons (.fz 2) .nil))) .nil))))
    .nil))
def B_all_colours (i_combined : Nat) : Ss := (.cons (.ret (.call i_combined (.cons (.lc [1] (.op .rngL (.cons (.nm 1) .nil)) (.nm 1) (.seq (.nm 0))) .nil)))
    .nil)
def B_same (i_all_colours : Nat) : Ss := (.cons (.asg 1 (.tup (.cons (.fz 0) (.cons (.fz 0) .nil))))
    (.cons (.ret (.tup (.cons (.fz 1) (.cons (.tup (.cons (.op .tuple (.cons (.lc [2, 3] (.ife (.op .eq (.cons (.nm 2) (.cons (.nm 3) .nil))) (.k (.int 0)) (.op .neg (.cons (.k (.int 1)) .nil))) (.tup [(.nm 2), (.nm 3)]) (.seq (.call i_all_colours (.cons (.fz 1) .nil)))) .nil)) .nil)) .nil))))
    .nil))
def B_check_question (i_check_system i_check_watcher i_is_within : Nat) : Ss := (.cons (.ite (.or (.not (.op (.isa "tuple") (.cons (.nm 0) .nil))) (.or (.op .ne (.cons (.op .len (.cons (.nm 0) .nil)) (.cons (.k (.int 4)) .nil))) (.not (.op (.isa "tuple") (.cons (.op .idx (.cons (.nm 0) (.cons (.k (.int 2)) .nil))) .nil))))) (.cons (.raise 3)
    .nil) .nil)
    (.cons (.unp (.tup [(.nm 2), (.nm 3), (.nm 4), (.nm 5)]) (.fz 0))
    (.cons (.for_ (.nm 1) (.seq (.nm 4)) (.cons (.ex (.call i_check_system (.cons (.fz 1) .nil)))
    .nil))
    (.cons (.ex (.call i_check_watcher (.cons (.fz 5) .nil)))
    (.cons (.ite (.or (.op .nin (.cons (.nm 2) (.cons (.tup (.cons (.k (.str "all")) (.cons (.k (.str "some")) .nil))) .nil))) (.or (.op .ne (.cons (.op .len (.cons (.nm 4) .nil)) (.cons (.op .len (.cons (.op .idx (.cons (.nm 5) (.cons (.k (.int 0)) .nil))) .nil)) .nil))) (.not (.call i_is_within (.cons (.fz 3) (.cons (.k (.int 0)) (.cons (.op .len (.cons (.nm 4) .nil)) .nil))))))) (.cons (.raise 3)
    .nil) .nil)
    (.cons (.ite (.op .ne (.cons (.op .tuple (.cons (.lc [1] (.op .idx (.cons (.nm 1) (.cons (.k (.int 0)) .nil))) (.nm 1) (.seq (.nm 4))) .nil)) (.cons (.op .idx (.cons (.nm 5) (.cons (.k (.int 0)) .nil))) .nil))) (.cons (.raise 3)
    .nil) .nil)
    .nil))))))
def B_leading : Ss := (.cons (.ret (.op .slH (.cons (.op .idx (.cons (.nm 0) (.cons (.k (.int 2)) .nil))) (.cons (.op .idx (.cons (.nm 0) (.cons (.k (.int 1)) .nil))) .nil))))
    .nil)
def B_following : Ss := (.cons (.ret (.op .slL (.cons (.op .idx (.cons (.nm 0) (.cons (.k (.int 2)) .nil))) (.cons (.op .idx (.cons (.nm 0) (.cons (.k (.int 1)) .nil))) .nil))))
    .nil)
def B_start_tuples (i_combined : Nat) : Ss := (.cons (.ret (.call i_combined (.cons (.lc [1] (.op .idx (.cons (.nm 1) (.cons (.k (.int 1)) .nil))) (.nm 1) (.seq (.nm 0))) .nil)))
    .nil)
def B_next_tuples (i_combined : Nat) : Ss := (.cons (.ret (.call i_combined (.cons (.lc [2, 3] (.op .idx (.cons (.op .idx (.cons (.op .idx (.cons (.nm 2) (.cons (.k (.int 2)) .nil))) (.cons (.nm 3) .nil))) (.cons (.k (.int 1)) .nil))) (.tup [(.nm 2), (.nm 3)]) (.zip2 (.fz 0) (.fz 1))) .nil)))
    .nil)
def B_colours_of : Ss := (.cons (.ret (.op .tuple (.cons (.lc [2, 3] (.op .idx (.cons (.op .idx (.cons (.op .idx (.cons (.nm 2) (.cons (.k (.int 2)) .nil))) (.cons (.nm 3) .nil))) (.cons (.k (.int 0)) .nil))) (.tup [(.nm 2), (.nm 3)]) (.zip2 (.fz 0) (.fz 1))) .nil)))
    .nil)
def B_starts (i_check_question i_start_tuples i_leading : Nat) : Ss := (.cons (.ex (.call i_check_question (.cons (.fz 0) .nil)))
    (.cons (.ret (.call i_start_tuples (.cons (.call i_leading (.cons (.fz 0) .nil)) .nil)))
    .nil))
def B_answer (i_check_question i_answer_all i_answer_some : Nat) : Ss := (.cons (.ex (.call i_check_question (.cons (.fz 0) .nil)))
    (.cons (.ite (.op .eq (.cons (.op .idx (.cons (.nm 0) (.cons (.k (.int 0)) .nil))) (.cons (.k (.str "all")) .nil))) (.cons (.ret (.call i_answer_all (.cons (.fz 0) .nil)))
    .nil) .nil)
    (.cons (.ret (.call i_answer_some (.cons (.fz 0) .nil)))
    .nil)))
def B_looks_question (i_check_system i_same : Nat) : Ss := (.cons (.ex (.call i_check_system (.cons (.fz 0) .nil)))
    (.cons (.ex (.call i_check_system (.cons (.fz 1) .nil)))
    (.cons (.ite (.op .ne (.cons (.op .idx (.cons (.nm 0) (.cons (.k (.int 0)) .nil))) (.cons (.op .idx (.cons (.nm 1) (.cons (.k (.int 0)) .nil))) .nil))) (.cons (.raise 3)
    .nil) .nil)
    (.cons (.ret (.tup (.cons (.k (.str "all")) (.cons (.k (.int 1)) (.cons (.tup (.cons (.fz 0) (.cons (.fz 1) .nil))) (.cons (.call i_same (.cons (.op .idx (.cons (.nm 0) (.cons (.k (.int 0)) .nil))) .nil)) .nil))))))
    .nil))))
def B_shown_by (i_answer i_looks_question : Nat) : Ss := (.cons (.ret (.call i_answer (.cons (.call i_looks_question (.cons (.fz 0) (.cons (.fz 1) .nil))) .nil)))
    .nil)
def B_equal_looks (i_shown_by : Nat) : Ss := (.cons (.ret (.and (.op .eq (.cons (.op .idx (.cons (.call i_shown_by (.cons (.fz 0) (.cons (.fz 1) .nil))) (.cons (.k (.int 0)) .nil))) (.cons (.k (.str "yes")) .nil))) (.op .eq (.cons (.op .idx (.cons (.call i_shown_by (.cons (.fz 1) (.cons (.fz 0) .nil))) (.cons (.k (.int 0)) .nil))) (.cons (.k (.str "yes")) .nil)))))
    .nil)
def B_law_take : Ss := (.cons (.ite (.op .eq (.cons (.op .idx (.cons (.nm 0) (.cons (.k (.int 1)) .nil))) (.cons (.k (.int 0)) .nil))) (.cons (.asg 2 (.op .idx (.cons (.nm 0) (.cons (.k (.int 2)) .nil))))
    (.cons (.asg 3 (.k (.int 0)))
    (.cons (.ite (.op .lt (.cons (.nm 2) (.cons (.op .len (.cons (.op .idx (.cons (.nm 0) (.cons (.k (.int 3)) .nil))) .nil)) .nil))) (.cons (.asg 3 (.op .idx (.cons (.op .idx (.cons (.nm 0) (.cons (.k (.int 3)) .nil))) (.cons (.nm 2) .nil))))
    (.cons (.mut .setI 0 (.cons (.ife (.op .ge (.cons (.nm 3) (.cons (.op .pow (.cons (.k (.int 10)) (.cons (.k (.int 18)) .nil))) .nil))) (.k (.int 60)) (.op .neg (.cons (.k (.int 9)) .nil))) (.cons (.k (.int 1)) .nil)))
    .nil)) .nil)
    (.cons (.mut .setI 0 (.cons (.op .add (.cons (.nm 2) (.cons (.k (.int 1)) .nil))) (.cons (.k (.int 2)) .nil)))
    (.cons (.mut .setI 0 (.cons (.fz 3) (.cons (.k (.int 0)) .nil)))
    (.cons (.ite (.op .eq (.cons (.op .idx (.cons (.nm 0) (.cons (.k (.int 1)) .nil))) (.cons (.k (.int 0)) .nil))) (.cons (.ret (.k (.int 0)))
    .nil) .nil)
    .nil)))))) .nil)
    (.cons (.ite (.op .gt (.cons (.op .idx (.cons (.nm 0) (.cons (.k (.int 1)) .nil))) (.cons (.k (.int 0)) .nil))) (.cons (.asg 4 (.op .mod (.cons (.op .int (.cons (.op .idx (.cons (.nm 0) (.cons (.k (.int 0)) .nil))) .nil)) (.cons (.nm 1) .nil))))
    (.cons (.mut .setI 0 (.cons (.op .fdiv (.cons (.op .idx (.cons (.nm 0) (.cons (.k (.int 0)) .nil))) (.cons (.nm 1) .nil))) (.cons (.k (.int 0)) .nil)))
    (.cons (.mut .setI 0 (.cons (.ife (.op .gt (.cons (.op .idx (.cons (.nm 0) (.cons (.k (.int 0)) .nil))) (.cons (.k (.int 0)) .nil))) (.op .sub (.cons (.op .idx (.cons (.nm 0) (.cons (.k (.int 1)) .nil))) (.cons (.k (.int 1)) .nil))) (.k (.int 0))) (.cons (.k (.int 1)) .nil)))
    (.cons (.mv 4)
    .nil)))) .nil)
    (.cons (.mut .setI 0 (.cons (.op .add (.cons (.op .idx (.cons (.nm 0) (.cons (.k (.int 1)) .nil))) (.cons (.k (.int 1)) .nil))) (.cons (.k (.int 1)) .nil)))
    (.cons (.mut .setI 0 (.cons (.op .mod (.cons (.op .int (.cons (.op .add (.cons (.op .mul (.cons (.op .idx (.cons (.nm 0) (.cons (.k (.int 0)) .nil))) (.cons (.k (.int 48271)) .nil))) (.cons (.op .mul (.cons (.k (.int 69621)) (.cons (.op .add (.cons (.op .idx (.cons (.nm 0) (.cons (.k (.int 1)) .nil))) (.cons (.k (.int 20)) .nil))) .nil))) .nil))) .nil)) (.cons (.k (.int 2147483647)) .nil))) (.cons (.k (.int 0)) .nil)))
    (.cons (.ret (.op .mod (.cons (.op .mod (.cons (.op .int (.cons (.op .add (.cons (.op .fdiv (.cons (.op .idx (.cons (.nm 0) (.cons (.k (.int 0)) .nil))) (.cons (.k (.int 7)) .nil))) (.cons (.op .idx (.cons (.nm 0) (.cons (.k (.int 0)) .nil))) .nil))) .nil)) (.cons (.k (.int 1000003)) .nil))) (.cons (.nm 1) .nil))))
    .nil)))))
def B_law_pick (i__law_take : Nat) : Ss := (.cons (.ret (.op .idx (.cons (.nm 1) (.cons (.call i__law_take (.cons (.nm 0) (.cons (.op .len (.cons (.nm 1) .nil)) .nil))) .nil))))
    .nil)
def B_law_subset (i__law_pick i__law_take : Nat) : Ss := (.cons (.asg 2 (.lst .nil))
    (.cons (.for_ (.nm 3) (.rng (.call i__law_pick (.cons (.nm 0) (.cons (.lst (.cons (.k (.int 1)) (.cons (.k (.int 1)) (.cons (.k (.int 1)) (.cons (.k (.int 2)) (.cons (.k (.int 2)) (.cons (.k (.int 3)) .nil))))))) .nil)))) (.cons (.asg 4 (.call i__law_take (.cons (.nm 0) (.cons (.fz 1) .nil))))
    (.cons (.ite (.op .nin (.cons (.nm 4) (.cons (.nm 2) .nil))) (.cons (.mut .app 2 (.cons (.fz 4) .nil))
    .nil) .nil)
    .nil)))
    (.cons (.ret (.op .tuple (.cons (.op .srt (.cons (.nm 2) .nil)) .nil)))
    .nil)))
def B_law_system (i__law_take i__law_subset : Nat) : Ss := (.cons (.asg 3 (.op .add (.cons (.k (.int 1)) (.cons (.call i__law_take (.cons (.nm 0) (.cons (.fz 2) .nil))) .nil))))
    (.cons (.asg 4 (.op .tuple (.cons (.lc [5] (.tup (.cons (.call i__law_take (.cons (.nm 0) (.cons (.fz 1) .nil))) (.cons (.call i__law_subset (.cons (.nm 0) (.cons (.fz 3) .nil))) .nil))) (.nm 5) (.rng (.nm 3))) .nil)))
    (.cons (.ret (.tup (.cons (.fz 1) (.cons (.call i__law_subset (.cons (.nm 0) (.cons (.fz 3) .nil))) (.cons (.fz 4) .nil)))))
    .nil)))
def B_law_path (i__law_pick : Nat) : Ss := (.cons (.asg 3 (.lst (.cons (.call i__law_pick (.cons (.nm 0) (.cons (.op .idx (.cons (.nm 1) (.cons (.k (.int 1)) .nil))) .nil))) .nil)))
    (.cons (.for_ (.nm 4) (.rng (.op .sub (.cons (.nm 2) (.cons (.k (.int 1)) .nil)))) (.cons (.mut .app 3 (.cons (.call i__law_pick (.cons (.nm 0) (.cons (.op .idx (.cons (.op .idx (.cons (.op .idx (.cons (.nm 1) (.cons (.k (.int 2)) .nil))) (.cons (.op .idx (.cons (.nm 3) (.cons (.nm 4) .nil))) .nil))) (.cons (.k (.int 1)) .nil))) .nil))) .nil))
    .nil))
    (.cons (.ret (.op .tuple (.cons (.nm 3) .nil)))
    .nil)))
def B_paths' (i_check_system : Nat) (g0 : Str) : Ss := (.cons (.ex (.call i_check_system (.cons (.fz 0) .nil)))
    (.cons (.asg 2 (.lc [4] (.tup (.cons (.fz 4) .nil)) (.nm 4) (.seq (.op .idx (.cons (.nm 0) (.cons (.k (.int 1)) .nil))))))
    (.cons (.for_ (.nm 3) (.rng (.op .sub (.cons (.nm 1) (.cons (.k (.int 1)) .nil)))) (.cons (.asg 2 (.lc2 [5, 6] (.op .add (.cons (.nm 5) (.cons (.tup (.cons (.fz 6) .nil)) .nil))) (.nm 5) (.seq (.nm 2)) (.nm 6) (.seq (.op .idx (.cons (.op .idx (.cons (.op .idx (.cons (.nm 0) (.cons (.k (.int 2)) .nil))) (.cons (.op .idx (.cons (.nm 5) (.cons (.op .neg (.cons (.k (.int 1)) .nil)) .nil))) .nil))) (.cons (.k (.int 1)) .nil)))) [6]))
    .nil))
    (.cons (.ite (.op .gt (.cons (.op .len (.cons (.nm 2) .nil)) (.cons (.glob g0 (.int 5000)) .nil))) (.cons (.raise 2)
    .nil) .nil)
    (.cons (.mv 2)
    .nil)))))
def B_goes (i_check_watcher i_step : Nat) : Ss := (.cons (.ex (.call i_check_watcher (.cons (.fz 0) .nil)))
    (.cons (.ret (.call i_step (.cons (.fz 0) (.cons (.fz 1) (.cons (.fz 2) .nil)))))
    .nil))
def B_belong_together (i_is_path_of : Nat) : Ss := (.cons (.ite (.or (.not (.op (.isa "tuple") (.cons (.nm 2) .nil))) (.or (.op .ne (.cons (.op .len (.cons (.nm 2) .nil)) (.cons (.op .len (.cons (.nm 1) .nil)) .nil))) (.op .ne (.cons (.op .len (.cons (.nm 1) .nil)) (.cons (.op .len (.cons (.op .idx (.cons (.nm 0) (.cons (.k (.int 0)) .nil))) .nil)) .nil))))) (.cons (.ret (.k (.bool false)))
    .nil) .nil)
    (.cons (.for_ (.tup [(.nm 3), (.nm 4), (.nm 5)]) (.zip3 (.fz 1) (.fz 2) (.op .idx (.cons (.nm 0) (.cons (.k (.int 0)) .nil)))) (.cons (.ite (.or (.op .ne (.cons (.op .idx (.cons (.nm 3) (.cons (.k (.int 0)) .nil))) (.cons (.nm 5) .nil))) (.or (.not (.call i_is_path_of (.cons (.fz 3) (.cons (.fz 4) .nil)))) (.op .ne (.cons (.op .len (.cons (.nm 4) .nil)) (.cons (.op .len (.cons (.op .idx (.cons (.nm 2) (.cons (.k (.int 0)) .nil))) .nil)) .nil))))) (.cons (.ret (.k (.bool false)))
    .nil) .nil)
    .nil))
    (.cons (.ret (.k (.bool true)))
    .nil)))
def B_accepts_paths (i_check_watcher i_check_system i_belong_together i_step : Nat) : Ss := (.cons (.ex (.call i_check_watcher (.cons (.fz 0) .nil)))
    (.cons (.for_ (.nm 3) (.seq (.nm 1)) (.cons (.ex (.call i_check_system (.cons (.fz 3) .nil)))
    .nil))
    (.cons (.ite (.not (.call i_belong_together (.cons (.fz 0) (.cons (.fz 1) (.cons (.fz 2) .nil))))) (.cons (.raise 4)
    .nil) .nil)
    (.cons (.asg 4 (.k (.int 0)))
    (.cons (.for_ (.nm 5) (.rng (.op .len (.cons (.op .idx (.cons (.nm 2) (.cons (.k (.int 0)) .nil))) .nil))) (.cons (.asg 4 (.call i_step (.cons (.fz 0) (.cons (.fz 4) (.cons (.op .tuple (.cons (.lc [3, 6] (.op .idx (.cons (.op .idx (.cons (.op .idx (.cons (.nm 3) (.cons (.k (.int 2)) .nil))) (.cons (.op .idx (.cons (.nm 6) (.cons (.nm 5) .nil))) .nil))) (.cons (.k (.int 0)) .nil))) (.tup [(.nm 3), (.nm 6)]) (.zip2 (.fz 1) (.fz 2))) .nil)) .nil)))))
    .nil))
    (.cons (.ret (.op .ge (.cons (.nm 4) (.cons (.k (.int 0)) .nil))))
    .nil))))))
def B_turned (i_check_watcher i_all_colours i_step : Nat) : Ss := (.cons (.ex (.call i_check_watcher (.cons (.fz 0) .nil)))
    (.cons (.asg 2 (.op .tuple (.cons (.lc [7] (.op .idx (.cons (.op .idx (.cons (.nm 0) (.cons (.k (.int 0)) .nil))) (.cons (.meth .index (.nm 1) (.nm 7)) .nil))) (.nm 7) (.rng (.op .len (.cons (.nm 1) .nil)))) .nil)))
    (.cons (.asg 3 (.lst .nil))
    (.cons (.for_ (.nm 4) (.rng (.op .len (.cons (.op .idx (.cons (.nm 0) (.cons (.k (.int 1)) .nil))) .nil))) (.cons (.asg 5 (.lst .nil))
    (.cons (.for_ (.nm 6) (.seq (.call i_all_colours (.cons (.fz 2) .nil))) (.cons (.mut .app 5 (.cons (.call i_step (.cons (.fz 0) (.cons (.fz 4) (.cons (.op .tuple (.cons (.lc [7] (.op .idx (.cons (.nm 6) (.cons (.nm 7) .nil))) (.nm 7) (.seq (.nm 1))) .nil)) .nil)))) .nil))
    .nil))
    (.cons (.mut .app 3 (.cons (.op .tuple (.cons (.nm 5) .nil)) .nil))
    .nil))))
    (.cons (.ret (.tup (.cons (.fz 2) (.cons (.op .tuple (.cons (.nm 3) .nil)) .nil))))
    .nil)))))
def B_law_times : Ss := (.cons (.asg 1 (.k (.int 1)))
    (.cons (.for_ (.nm 2) (.seq (.nm 0)) (.cons (.asg 1 (.op .mul (.cons (.nm 1) (.cons (.nm 2) .nil))))
    .nil))
    (.cons (.mv 1)
    .nil)))
def B_law_watcher (i__law_take i__law_pick i__law_times : Nat) : Ss := (.cons (.asg 3 (.op .add (.cons (.k (.int 1)) (.cons (.call i__law_take (.cons (.nm 0) (.cons (.fz 2) .nil))) .nil))))
    (.cons (.asg 4 (.call i__law_pick (.cons (.nm 0) (.cons (.lst (.cons (.k (.int 2)) (.cons (.k (.int 3)) (.cons (.k (.int 4)) (.cons (.k (.int 4)) (.cons (.k (.int 6)) (.cons (.k (.int 9)) .nil))))))) .nil))))
    (.cons (.asg 5 (.lst .nil))
    (.cons (.for_ (.nm 6) (.rng (.nm 3)) (.cons (.mut .app 5 (.cons (.op .tuple (.cons (.lc [7] (.ife (.op .eq (.cons (.call i__law_take (.cons (.nm 0) (.cons (.fz 4) .nil))) (.cons (.k (.int 0)) .nil))) (.op .neg (.cons (.k (.int 1)) .nil)) (.call i__law_take (.cons (.nm 0) (.cons (.fz 3) .nil)))) (.nm 7) (.rng (.call i__law_times (.cons (.fz 1) .nil)))) .nil)) .nil))
    .nil))
    (.cons (.ret (.tup (.cons (.fz 1) (.cons (.op .tuple (.cons (.nm 5) .nil)) .nil))))
    .nil)))))
def B_law_goes : Ss := (.cons (.asg 3 (.k (.int 0)))
    (.cons (.for_ (.nm 4) (.rng (.op .len (.cons (.nm 2) .nil))) (.cons (.asg 3 (.op .add (.cons (.op .mul (.cons (.nm 3) (.cons (.op .idx (.cons (.op .idx (.cons (.nm 0) (.cons (.k (.int 0)) .nil))) (.cons (.nm 4) .nil))) .nil))) (.cons (.op .idx (.cons (.nm 2) (.cons (.nm 4) .nil))) .nil))))
    .nil))
    (.cons (.ret (.ife (.op .ge (.cons (.nm 1) (.cons (.k (.int 0)) .nil))) (.op .idx (.cons (.op .idx (.cons (.op .idx (.cons (.nm 0) (.cons (.k (.int 1)) .nil))) (.cons (.nm 1) .nil))) (.cons (.nm 3) .nil))) (.op .neg (.cons (.k (.int 1)) .nil))))
    .nil)))
def B_law_choices : Ss := (.cons (.asg 1 (.lst (.cons (.tup .nil) .nil)))
    (.cons (.for_ (.nm 2) (.seq (.nm 0)) (.cons (.asg 3 (.lst .nil))
    (.cons (.for_ (.nm 4) (.seq (.nm 1)) (.cons (.asg 3 (.op .add (.cons (.nm 3) (.cons (.lc [5] (.op .add (.cons (.nm 4) (.cons (.tup (.cons (.fz 5) .nil)) .nil))) (.nm 5) (.seq (.nm 2))) .nil))))
    .nil))
    (.cons (.asg 1 (.fz 3))
    .nil))))
    (.cons (.mv 1)
    .nil)))
def B_law_counts (i__law_pick : Nat) : Ss := (.cons (.ret (.op .tuple (.cons (.lc [1] (.call i__law_pick (.cons (.nm 0) (.cons (.lst (.cons (.k (.int 2)) (.cons (.k (.int 2)) (.cons (.k (.int 2)) (.cons (.k (.int 1)) (.cons (.k (.int 3)) .nil)))))) .nil))) (.nm 1) (.rng (.call i__law_pick (.cons (.nm 0) (.cons (.lst (.cons (.k (.int 2)) (.cons (.k (.int 2)) (.cons (.k (.int 1)) (.cons (.k (.int 3)) .nil))))) .nil))))) .nil)))
    .nil)
def B_law_bad_system (i__law_take i__law_pick : Nat) : Ss := (.cons (.unp (.tup [(.nm 6), (.nm 7), (.nm 8)]) (.fz 1))
    (.cons (.asg 2 (.op .len (.cons (.nm 8) .nil)))
    (.cons (.asg 3 (.call i__law_take (.cons (.nm 0) (.cons (.fz 2) .nil))))
    (.cons (.unp (.tup [(.nm 9), (.nm 10)]) (.op .idx (.cons (.nm 8) (.cons (.nm 3) .nil))))
    (.cons (.asg 4 (.lst (.cons (.tup (.cons (.fz 6) (.cons (.fz 10) .nil))) (.cons (.tup (.cons (.op .neg (.cons (.k (.int 1)) .nil)) (.cons (.fz 10) .nil))) (.cons (.tup (.cons (.k (.bool true)) (.cons (.fz 10) .nil))) (.cons (.tup (.cons (.k .none) (.cons (.fz 10) .nil))) (.cons (.tup (.cons (.fz 9) (.cons (.tup .nil) .nil))) (.cons (.tup (.cons (.fz 9) (.cons (.tup (.cons (.fz 2) .nil)) .nil))) (.cons (.tup (.cons (.fz 9) (.cons (.tup (.cons (.op .neg (.cons (.k (.int 1)) .nil)) .nil)) .nil))) (.cons (.tup (.cons (.fz 9) (.cons (.tup (.cons (.op .idx (.cons (.nm 10) (.cons (.k (.int 0)) .nil))) (.cons (.op .idx (.cons (.nm 10) (.cons (.k (.int 0)) .nil))) .nil))) .nil))) (.cons (.tup (.cons (.fz 9) (.cons (.tup (.cons (.k (.bool false)) .nil)) .nil))) (.cons (.tup (.cons (.fz 9) (.cons (.k .none) .nil))) (.cons (.tup (.cons (.fz 9) .nil)) (.cons (.tup (.cons (.fz 9) (.cons (.fz 10) (.cons (.k (.int 0)) .nil)))) (.cons (.tup (.cons (.fz 10) (.cons (.fz 9) .nil))) (.cons (.k .none) (.cons (.k (.int 0)) (.cons (.tup (.cons (.fz 9) (.cons (.and (.op .list (.cons (.nm 10) .nil)) (.k (.int 0))) .nil))) (.cons (.tup (.cons (.fz 9) (.cons (.tup (.cons (.k (.str "0")) .nil)) .nil))) .nil)))))))))))))))))))
    (.cons (.asg 4 (.op .add (.cons (.nm 4) (.cons (.lc [11] (.tup (.cons (.fz 9) (.cons (.op .add (.cons (.nm 10) (.cons (.tup (.cons (.fz 11) .nil)) .nil))) .nil))) (.nm 11) (.seq (.tup (.cons (.fz 2) (.cons (.k (.str "0")) (.cons (.k .none) (.cons (.op .idx (.cons (.nm 10) (.cons (.op .sub (.cons (.op .len (.cons (.nm 10) .nil)) (.cons (.k (.int 1)) .nil))) .nil))) (.cons (.op .neg (.cons (.k (.int 1)) .nil)) (.cons (.tup (.cons (.k (.int 0)) .nil)) .nil))))))))) .nil))))
    (.cons (.ite (.op .gt (.cons (.op .len (.cons (.nm 10) .nil)) (.cons (.k (.int 1)) .nil))) (.cons (.mut .app 4 (.cons (.tup (.cons (.fz 9) (.cons (.tup (.cons (.op .idx (.cons (.nm 10) (.cons (.k (.int 1)) .nil))) (.cons (.op .idx (.cons (.nm 10) (.cons (.k (.int 0)) .nil))) .nil))) .nil))) .nil))
    .nil) .nil)
    (.cons (.ite (.op .eq (.cons (.nm 10) (.cons (.tup (.cons (.k (.int 0)) .nil)) .nil))) (.cons (.mut .app 4 (.cons (.tup (.cons (.fz 9) (.cons (.tup (.cons (.k (.int 0)) (.cons (.k (.bool true)) .nil))) .nil))) .nil))
    .nil) .nil)
    (.cons (.asg 5 (.lc [11] (.tup (.cons (.fz 6) (.cons (.fz 7) (.cons (.op .add (.cons (.op .add (.cons (.op .slH (.cons (.nm 8) (.cons (.nm 3) .nil))) (.cons (.tup (.cons (.fz 11) .nil)) .nil))) (.cons (.op .slL (.cons (.nm 8) (.cons (.op .add (.cons (.nm 3) (.cons (.k (.int 1)) .nil))) .nil))) .nil))) .nil)))) (.nm 11) (.seq (.nm 4))))
    (.cons (.asg 5 (.op .add (.cons (.nm 5) (.cons (.lst (.cons (.tup (.cons (.k (.int 0)) (.cons (.fz 7) (.cons (.fz 8) .nil)))) (.cons (.tup (.cons (.k (.int 5)) (.cons (.fz 7) (.cons (.fz 8) .nil)))) (.cons (.tup (.cons (.k (.bool true)) (.cons (.fz 7) (.cons (.fz 8) .nil)))) (.cons (.tup (.cons (.fz 6) (.cons (.tup .nil) (.cons (.fz 8) .nil)))) (.cons (.tup (.cons (.fz 6) (.cons (.tup (.cons (.fz 2) .nil)) (.cons (.fz 8) .nil)))) (.cons (.tup (.cons (.fz 6) (.cons (.tup (.cons (.op .neg (.cons (.k (.int 1)) .nil)) .nil)) (.cons (.fz 8) .nil)))) (.cons (.tup (.cons (.fz 6) (.cons (.tup (.cons (.op .idx (.cons (.nm 7) (.cons (.k (.int 0)) .nil))) (.cons (.op .idx (.cons (.nm 7) (.cons (.k (.int 0)) .nil))) .nil))) (.cons (.fz 8) .nil)))) (.cons (.tup (.cons (.fz 6) (.cons (.tup (.cons (.k (.bool false)) .nil)) (.cons (.fz 8) .nil)))) (.cons (.tup (.cons (.fz 6) (.cons (.fz 7) (.cons (.tup .nil) .nil)))) (.cons (.tup (.cons (.fz 6) (.cons (.fz 7) .nil))) (.cons (.tup (.cons (.fz 6) (.cons (.fz 7) (.cons (.fz 8) (.cons (.k (.int 0)) .nil))))) (.cons (.tup (.cons (.fz 7) (.cons (.fz 6) (.cons (.fz 8) .nil)))) (.cons (.k .none) (.cons (.k (.int 7)) (.cons (.k (.str "system")) (.cons (.tup .nil) (.cons (.tup (.cons (.fz 6) (.cons (.k (.int 0)) (.cons (.fz 8) .nil)))) (.cons (.tup (.cons (.fz 6) (.cons (.fz 7) (.cons (.k (.str "s")) .nil)))) (.cons (.tup (.cons (.fz 6) (.cons (.fz 7) (.cons (.op .add (.cons (.nm 8) (.cons (.op .mul (.cons (.nm 8) (.cons (.k (.int 8)) .nil))) .nil))) .nil)))) .nil)))))))))))))))))))) .nil))))
    (.cons (.asg 5 (.op .add (.cons (.op .add (.cons (.nm 5) (.cons (.lc [11] (.tup (.cons (.fz 6) (.cons (.op .add (.cons (.nm 7) (.cons (.tup (.cons (.fz 11) .nil)) .nil))) (.cons (.fz 8) .nil)))) (.nm 11) (.seq (.tup (.cons (.fz 2) (.cons (.k (.str "0")) (.cons (.k .none) (.cons (.op .idx (.cons (.nm 7) (.cons (.op .sub (.cons (.op .len (.cons (.nm 7) .nil)) (.cons (.k (.int 1)) .nil))) .nil))) (.cons (.op .neg (.cons (.k (.int 1)) .nil)) (.cons (.tup (.cons (.k (.int 0)) .nil)) .nil))))))))) .nil))) (.cons (.lc [11] (.tup (.cons (.fz 6) (.cons (.tup (.cons (.fz 11) .nil)) (.cons (.fz 8) .nil)))) (.nm 11) (.seq (.tup (.cons (.k (.str "0")) (.cons (.k .none) (.cons (.tup (.cons (.k (.int 0)) .nil)) .nil)))))) .nil))))
    (.cons (.ite (.op .gt (.cons (.op .len (.cons (.nm 7) .nil)) (.cons (.k (.int 1)) .nil))) (.cons (.mut .app 5 (.cons (.tup (.cons (.fz 6) (.cons (.tup (.cons (.op .idx (.cons (.nm 7) (.cons (.k (.int 1)) .nil))) (.cons (.op .idx (.cons (.nm 7) (.cons (.k (.int 0)) .nil))) .nil))) (.cons (.fz 8) .nil)))) .nil))
    .nil) .nil)
    (.cons (.ite (.op .gt (.cons (.nm 2) (.cons (.k (.int 1)) .nil))) (.cons (.asg 5 (.op .add (.cons (.nm 5) (.cons (.lst (.cons (.tup (.cons (.fz 6) (.cons (.tup (.cons (.k (.int 1)) (.cons (.k (.int 0)) .nil))) (.cons (.fz 8) .nil)))) (.cons (.tup (.cons (.fz 6) (.cons (.tup (.cons (.k (.int 0)) (.cons (.k (.bool true)) .nil))) (.cons (.fz 8) .nil)))) .nil))) .nil))))
    .nil) .nil)
    (.cons (.ret (.call i__law_pick (.cons (.nm 0) (.cons (.fz 5) .nil))))
    .nil))))))))))))))
def B_law_bad_watcher (i__law_take i__law_pick : Nat) : Ss := (.cons (.unp (.tup [(.nm 8), (.nm 9)]) (.fz 1))
    (.cons (.asg 2 (.op .len (.cons (.nm 9) .nil)))
    (.cons (.asg 3 (.call i__law_take (.cons (.nm 0) (.cons (.fz 2) .nil))))
    (.cons (.asg 4 (.op .idx (.cons (.nm 9) (.cons (.nm 3) .nil))))
    (.cons (.asg 5 (.call i__law_take (.cons (.nm 0) (.cons (.op .len (.cons (.nm 4) .nil)) .nil))))
    (.cons (.asg 6 (.op .add (.cons (.lst (.cons (.op .add (.cons (.nm 4) (.cons (.tup (.cons (.k (.int 0)) .nil)) .nil))) (.cons (.op .slL (.cons (.nm 4) (.cons (.k (.int 1)) .nil))) (.cons (.k .none) (.cons (.k (.int 0)) (.cons (.k (.str "")) (.cons (.op .mul (.cons (.tup (.cons (.fz 4) .nil)) (.cons (.op .add (.cons (.k (.int 2)) (.cons (.op .len (.cons (.nm 4) .nil)) .nil))) .nil))) .nil))))))) (.cons (.lc [10] (.op .add (.cons (.op .add (.cons (.op .slH (.cons (.nm 4) (.cons (.nm 5) .nil))) (.cons (.tup (.cons (.fz 10) .nil)) .nil))) (.cons (.op .slL (.cons (.nm 4) (.cons (.op .add (.cons (.nm 5) (.cons (.k (.int 1)) .nil))) .nil))) .nil))) (.nm 10) (.seq (.tup (.cons (.fz 2) (.cons (.op .neg (.cons (.k (.int 2)) .nil)) (.cons (.k (.bool true)) (.cons (.k .none) (.cons (.k (.str "0")) (.cons (.tup (.cons (.k (.int 0)) .nil)) .nil))))))))) .nil))))
    (.cons (.asg 7 (.lc [10] (.tup (.cons (.fz 8) (.cons (.op .add (.cons (.op .add (.cons (.op .slH (.cons (.nm 9) (.cons (.nm 3) .nil))) (.cons (.tup (.cons (.fz 10) .nil)) .nil))) (.cons (.op .slL (.cons (.nm 9) (.cons (.op .add (.cons (.nm 3) (.cons (.k (.int 1)) .nil))) .nil))) .nil))) .nil))) (.nm 10) (.seq (.nm 6))))
    (.cons (.asg 7 (.op .add (.cons (.nm 7) (.cons (.lst (.cons (.tup (.cons (.fz 8) (.cons (.tup .nil) .nil))) (.cons (.tup (.cons (.fz 8) (.cons (.op .mul (.cons (.nm 9) (.cons (.k (.int 7)) .nil))) .nil))) (.cons (.tup (.cons (.fz 8) .nil)) (.cons (.tup (.cons (.fz 8) (.cons (.fz 9) (.cons (.k (.int 0)) .nil)))) (.cons (.tup (.cons (.fz 9) (.cons (.fz 8) .nil))) (.cons (.k .none) (.cons (.k (.int 3)) (.cons (.k (.str "watcher")) (.cons (.tup .nil) (.cons (.tup (.cons (.tup .nil) (.cons (.fz 9) .nil))) (.cons (.tup (.cons (.op .add (.cons (.tup (.cons (.k (.int 0)) .nil)) (.cons (.op .slL (.cons (.nm 8) (.cons (.k (.int 1)) .nil))) .nil))) (.cons (.fz 9) .nil))) (.cons (.tup (.cons (.op .add (.cons (.tup (.cons (.k (.int 5)) .nil)) (.cons (.op .slL (.cons (.nm 8) (.cons (.k (.int 1)) .nil))) .nil))) (.cons (.fz 9) .nil))) (.cons (.tup (.cons (.op .add (.cons (.tup (.cons (.k (.bool true)) .nil)) (.cons (.op .slL (.cons (.nm 8) (.cons (.k (.int 1)) .nil))) .nil))) (.cons (.fz 9) .nil))) (.cons (.tup (.cons (.op .add (.cons (.nm 8) (.cons (.op .mul (.cons (.tup (.cons (.k (.int 1)) .nil)) (.cons (.k (.int 4)) .nil))) .nil))) (.cons (.fz 9) .nil))) (.cons (.tup (.cons (.k .none) (.cons (.fz 9) .nil))) (.cons (.tup (.cons (.fz 8) (.cons (.k .none) .nil))) (.cons (.tup (.cons (.k (.int 1)) (.cons (.fz 9) .nil))) (.cons (.tup (.cons (.op .add (.cons (.nm 8) (.cons (.tup (.cons (.k (.int 2)) .nil)) .nil))) (.cons (.fz 9) .nil))) .nil))))))))))))))))))) .nil))))
    (.cons (.ret (.call i__law_pick (.cons (.nm 0) (.cons (.fz 7) .nil))))
    .nil)))))))))
def B_nexts (i_check_question i_next_tuples i_leading : Nat) : Ss := (.cons (.ex (.call i_check_question (.cons (.fz 0) .nil)))
    (.cons (.ret (.call i_next_tuples (.cons (.call i_leading (.cons (.fz 0) .nil)) (.cons (.fz 1) .nil))))
    .nil))
def B_are_states (i_is_within : Nat) : Ss := (.cons (.ite (.or (.not (.op (.isa "tuple") (.cons (.nm 0) .nil))) (.op .ne (.cons (.op .len (.cons (.nm 0) .nil)) (.cons (.op .len (.cons (.nm 1) .nil)) .nil)))) (.cons (.ret (.k (.bool false)))
    .nil) .nil)
    (.cons (.for_ (.tup [(.nm 2), (.nm 3)]) (.zip2 (.fz 0) (.fz 1)) (.cons (.ite (.not (.call i_is_within (.cons (.fz 2) (.cons (.k (.int 0)) (.cons (.op .sub (.cons (.op .len (.cons (.op .idx (.cons (.nm 3) (.cons (.k (.int 2)) .nil))) .nil)) (.cons (.k (.int 1)) .nil))) .nil))))) (.cons (.ret (.k (.bool false)))
    .nil) .nil)
    .nil))
    (.cons (.ret (.k (.bool true)))
    .nil)))
def B_is_crowd (i_are_states i_following i_is_within : Nat) : Ss := (.cons (.ite (.not (.op (.isa "tuple") (.cons (.nm 1) .nil))) (.cons (.ret (.k (.bool false)))
    .nil) .nil)
    (.cons (.for_ (.nm 2) (.seq (.nm 1)) (.cons (.ite (.or (.not (.op (.isa "tuple") (.cons (.nm 2) .nil))) (.op .ne (.cons (.op .len (.cons (.nm 2) .nil)) (.cons (.k (.int 2)) .nil)))) (.cons (.ret (.k (.bool false)))
    .nil) .nil)
    (.cons (.ite (.or (.not (.call i_are_states (.cons (.op .idx (.cons (.nm 2) (.cons (.k (.int 0)) .nil))) (.cons (.call i_following (.cons (.fz 0) .nil)) .nil)))) (.not (.call i_is_within (.cons (.op .idx (.cons (.nm 2) (.cons (.k (.int 1)) .nil))) (.cons (.k (.int 0)) (.cons (.op .sub (.cons (.op .len (.cons (.op .idx (.cons (.op .idx (.cons (.nm 0) (.cons (.k (.int 3)) .nil))) (.cons (.k (.int 1)) .nil))) .nil)) (.cons (.k (.int 1)) .nil))) .nil)))))) (.cons (.ret (.k (.bool false)))
    .nil) .nil)
    .nil)))
    (.cons (.for_ (.nm 3) (.rng2 (.k (.int 1)) (.op .len (.cons (.nm 1) .nil))) (.cons (.ite (.not (.op .lt (.cons (.op .idx (.cons (.nm 1) (.cons (.op .sub (.cons (.nm 3) (.cons (.k (.int 1)) .nil))) .nil))) (.cons (.op .idx (.cons (.nm 1) (.cons (.nm 3) .nil))) .nil)))) (.cons (.ret (.k (.bool false)))
    .nil) .nil)
    .nil))
    (.cons (.ret (.k (.bool true)))
    .nil))))
def B_are_rows (i_are_states i_leading i_is_crowd : Nat) (g0 : Str) : Ss := (.cons (.ite (.or (.not (.op (.isa "tuple") (.cons (.nm 1) .nil))) (.op .gt (.cons (.op .len (.cons (.nm 1) .nil)) (.cons (.glob g0 (.int 400)) .nil)))) (.cons (.ret (.k (.bool false)))
    .nil) .nil)
    (.cons (.for_ (.nm 2) (.seq (.nm 1)) (.cons (.ite (.or (.not (.op (.isa "tuple") (.cons (.nm 2) .nil))) (.op .ne (.cons (.op .len (.cons (.nm 2) .nil)) (.cons (.k (.int 2)) .nil)))) (.cons (.ret (.k (.bool false)))
    .nil) .nil)
    (.cons (.ite (.or (.not (.call i_are_states (.cons (.op .idx (.cons (.nm 2) (.cons (.k (.int 0)) .nil))) (.cons (.call i_leading (.cons (.fz 0) .nil)) .nil)))) (.not (.call i_is_crowd (.cons (.fz 0) (.cons (.op .idx (.cons (.nm 2) (.cons (.k (.int 1)) .nil))) .nil))))) (.cons (.ret (.k (.bool false)))
    .nil) .nil)
    .nil)))
    (.cons (.ret (.k (.bool true)))
    .nil)))
def B_are_leaders (i_are_states i_leading : Nat) (g0 : Str) : Ss := (.cons (.ite (.or (.not (.op (.isa "tuple") (.cons (.nm 1) .nil))) (.op .gt (.cons (.op .len (.cons (.nm 1) .nil)) (.cons (.glob g0 (.int 400)) .nil)))) (.cons (.ret (.k (.bool false)))
    .nil) .nil)
    (.cons (.for_ (.nm 2) (.seq (.nm 1)) (.cons (.ite (.not (.call i_are_states (.cons (.fz 2) (.cons (.call i_leading (.cons (.fz 0) .nil)) .nil)))) (.cons (.ret (.k (.bool false)))
    .nil) .nil)
    .nil))
    (.cons (.ret (.k (.bool true)))
    .nil)))
def B_are_linked (i_start_tuples i_leading i_next_tuples : Nat) : Ss := (.cons (.ite (.or (.not (.nm 1)) (.op .nin (.cons (.op .idx (.cons (.nm 1) (.cons (.k (.int 0)) .nil))) (.cons (.call i_start_tuples (.cons (.call i_leading (.cons (.fz 0) .nil)) .nil)) .nil)))) (.cons (.ret (.k (.bool false)))
    .nil) .nil)
    (.cons (.for_ (.nm 2) (.rng2 (.k (.int 1)) (.op .len (.cons (.nm 1) .nil))) (.cons (.ite (.op .nin (.cons (.op .idx (.cons (.nm 1) (.cons (.nm 2) .nil))) (.cons (.call i_next_tuples (.cons (.call i_leading (.cons (.fz 0) .nil)) (.cons (.op .idx (.cons (.nm 1) (.cons (.op .sub (.cons (.nm 2) (.cons (.k (.int 1)) .nil))) .nil))) .nil))) .nil))) (.cons (.ret (.k (.bool false)))
    .nil) .nil)
    .nil))
    (.cons (.ret (.k (.bool true)))
    .nil)))
def B_some_yes (i_are_leaders i_are_linked i_never_fails : Nat) (g0 : Str) : Ss := (.cons (.ite (.or (.not (.call i_are_leaders (.cons (.fz 0) (.cons (.fz 1) .nil)))) (.or (.not (.call i_are_leaders (.cons (.fz 0) (.cons (.fz 2) .nil)))) (.or (.not (.nm 2)) (.op .gt (.cons (.op .add (.cons (.op .len (.cons (.nm 1) .nil)) (.cons (.op .len (.cons (.nm 2) .nil)) .nil))) (.cons (.glob g0 (.int 400)) .nil)))))) (.cons (.ret (.k (.bool false)))
    .nil) .nil)
    (.cons (.ite (.not (.call i_are_linked (.cons (.fz 0) (.cons (.op .add (.cons (.op .add (.cons (.nm 1) (.cons (.nm 2) .nil))) (.cons (.op .slH (.cons (.nm 2) (.cons (.k (.int 1)) .nil))) .nil))) .nil)))) (.cons (.ret (.k (.bool false)))
    .nil) .nil)
    (.cons (.ret (.call i_never_fails (.cons (.fz 0) (.cons (.op .add (.cons (.nm 1) (.cons (.nm 2) .nil))) (.cons (.op .len (.cons (.nm 1) .nil)) .nil)))))
    .nil)))
def B_is_right (i_all_yes i_all_no i_some_yes i_some_no : Nat) : Ss := (.cons (.ite (.or (.not (.op (.isa "tuple") (.cons (.nm 1) .nil))) (.not (.nm 1))) (.cons (.ret (.k (.bool false)))
    .nil) .nil)
    (.cons (.ite (.and (.op .eq (.cons (.op .idx (.cons (.nm 0) (.cons (.k (.int 0)) .nil))) (.cons (.k (.str "all")) .nil))) (.and (.op .eq (.cons (.op .len (.cons (.nm 1) .nil)) (.cons (.k (.int 2)) .nil))) (.op .eq (.cons (.op .idx (.cons (.nm 1) (.cons (.k (.int 0)) .nil))) (.cons (.k (.str "yes")) .nil))))) (.cons (.ret (.call i_all_yes (.cons (.fz 0) (.cons (.op .idx (.cons (.nm 1) (.cons (.k (.int 1)) .nil))) .nil))))
    .nil) .nil)
    (.cons (.ite (.and (.op .eq (.cons (.op .idx (.cons (.nm 0) (.cons (.k (.int 0)) .nil))) (.cons (.k (.str "all")) .nil))) (.and (.op .eq (.cons (.op .len (.cons (.nm 1) .nil)) (.cons (.k (.int 2)) .nil))) (.op .eq (.cons (.op .idx (.cons (.nm 1) (.cons (.k (.int 0)) .nil))) (.cons (.k (.str "no")) .nil))))) (.cons (.ret (.call i_all_no (.cons (.fz 0) (.cons (.op .idx (.cons (.nm 1) (.cons (.k (.int 1)) .nil))) .nil))))
    .nil) .nil)
    (.cons (.ite (.and (.op .eq (.cons (.op .idx (.cons (.nm 0) (.cons (.k (.int 0)) .nil))) (.cons (.k (.str "some")) .nil))) (.and (.op .eq (.cons (.op .len (.cons (.nm 1) .nil)) (.cons (.k (.int 3)) .nil))) (.op .eq (.cons (.op .idx (.cons (.nm 1) (.cons (.k (.int 0)) .nil))) (.cons (.k (.str "yes")) .nil))))) (.cons (.ret (.call i_some_yes (.cons (.fz 0) (.cons (.op .idx (.cons (.nm 1) (.cons (.k (.int 1)) .nil))) (.cons (.op .idx (.cons (.nm 1) (.cons (.k (.int 2)) .nil))) .nil)))))
    .nil) .nil)
    (.cons (.ret (.and (.op .eq (.cons (.op .idx (.cons (.nm 0) (.cons (.k (.int 0)) .nil))) (.cons (.k (.str "some")) .nil))) (.and (.op .eq (.cons (.op .len (.cons (.nm 1) .nil)) (.cons (.k (.int 2)) .nil))) (.and (.op .eq (.cons (.op .idx (.cons (.nm 1) (.cons (.k (.int 0)) .nil))) (.cons (.k (.str "no")) .nil))) (.call i_some_no (.cons (.fz 0) (.cons (.op .idx (.cons (.nm 1) (.cons (.k (.int 1)) .nil))) .nil)))))))
    .nil)))))
def B_takes (i_check_question i_is_right : Nat) : Ss := (.cons (.ex (.call i_check_question (.cons (.fz 0) .nil)))
    (.cons (.ret (.call i_is_right (.cons (.fz 0) (.cons (.fz 1) .nil))))
    .nil))
def B_law_question (i__law_counts i__law_system i__law_pick i__law_take i__law_watcher : Nat) : Ss := (.cons (.asg 1 (.call i__law_counts (.cons (.nm 0) .nil)))
    (.cons (.asg 2 (.ife (.op .lt (.cons (.op .len (.cons (.nm 1) .nil)) (.cons (.k (.int 3)) .nil))) (.k (.int 3)) (.k (.int 2))))
    (.cons (.asg 3 (.op .tuple (.cons (.lc [4] (.call i__law_system (.cons (.nm 0) (.cons (.fz 4) (.cons (.fz 2) .nil)))) (.nm 4) (.seq (.nm 1))) .nil)))
    (.cons (.ret (.tup (.cons (.call i__law_pick (.cons (.nm 0) (.cons (.lst (.cons (.k (.str "all")) (.cons (.k (.str "some")) .nil))) .nil))) (.cons (.call i__law_take (.cons (.nm 0) (.cons (.op .add (.cons (.op .len (.cons (.nm 1) .nil)) (.cons (.k (.int 1)) .nil))) .nil))) (.cons (.fz 3) (.cons (.call i__law_watcher (.cons (.nm 0) (.cons (.fz 1) (.cons (.k (.int 3)) .nil)))) .nil))))))
    .nil))))
def B_law_colours : Ss := (.cons (.ret (.op .tuple (.cons (.lc [2] (.op .idx (.cons (.op .idx (.cons (.op .idx (.cons (.op .idx (.cons (.nm 0) (.cons (.nm 2) .nil))) (.cons (.k (.int 2)) .nil))) (.cons (.op .idx (.cons (.nm 1) (.cons (.nm 2) .nil))) .nil))) (.cons (.k (.int 0)) .nil))) (.nm 2) (.rng (.op .len (.cons (.nm 0) .nil)))) .nil)))
    .nil)
def B_law_starts (i__law_choices : Nat) : Ss := (.cons (.ret (.call i__law_choices (.cons (.lc [1] (.op .idx (.cons (.nm 1) (.cons (.k (.int 1)) .nil))) (.nm 1) (.seq (.nm 0))) .nil)))
    .nil)
def B_law_nexts (i__law_choices : Nat) : Ss := (.cons (.ret (.call i__law_choices (.cons (.lc [2] (.op .idx (.cons (.op .idx (.cons (.op .idx (.cons (.op .idx (.cons (.nm 0) (.cons (.nm 2) .nil))) (.cons (.k (.int 2)) .nil))) (.cons (.op .idx (.cons (.nm 1) (.cons (.nm 2) .nil))) .nil))) (.cons (.k (.int 1)) .nil))) (.nm 2) (.rng (.op .len (.cons (.nm 0) .nil)))) .nil)))
    .nil)
def B_law_bad_system' (i__law_take i__law_pick : Nat) : Ss := (.cons (.unp (.tup [(.nm 6), (.nm 7), (.nm 8)]) (.fz 1))
    (.cons (.par [9, 10] (.cons (.call i__law_take (.cons (.nm 0) (.cons (.op .len (.cons (.nm 8) .nil)) .nil))) (.cons (.op .len (.cons (.nm 8) .nil)) .nil)))
    (.cons (.unp (.tup [(.nm 11), (.nm 12)]) (.op .idx (.cons (.nm 8) (.cons (.nm 9) .nil))))
    (.cons (.asg 2 (.call i__law_pick (.cons (.nm 0) (.cons (.lst (.cons (.fz 7) (.cons (.fz 12) .nil))) .nil))))
    (.cons (.asg 3 (.call i__law_pick (.cons (.nm 0) (.cons (.lst (.cons (.tup .nil) (.cons (.tup (.cons (.fz 10) .nil)) (.cons (.tup (.cons (.op .neg (.cons (.k (.int 1)) .nil)) .nil)) (.cons (.op .add (.cons (.nm 2) (.cons (.tup (.cons (.fz 10) .nil)) .nil))) (.cons (.op .add (.cons (.nm 2) (.cons (.op .slL (.cons (.nm 2) (.cons (.op .sub (.cons (.op .len (.cons (.nm 2) .nil)) (.cons (.k (.int 1)) .nil))) .nil))) .nil))) (.cons (.op .add (.cons (.nm 2) (.cons (.tup (.cons (.k (.bool true)) .nil)) .nil))) (.cons (.op .add (.cons (.nm 2) (.cons (.tup (.cons (.k (.str "0")) .nil)) .nil))) (.cons (.op .add (.cons (.nm 2) (.cons (.tup (.cons (.k .none) .nil)) .nil))) (.cons (.tup (.cons (.k .none) .nil)) (.cons (.tup (.cons (.k (.str "0")) .nil)) (.cons (.tup (.cons (.k (.bool false)) .nil)) (.cons (.tup (.cons (.tup (.cons (.k (.int 0)) .nil)) .nil)) (.cons (.k .none) (.cons (.k (.int 0)) (.cons (.op .add (.cons (.tup (.cons (.op .sub (.cons (.nm 10) (.cons (.k (.int 1)) .nil))) .nil)) (.cons (.nm 2) .nil))) .nil)))))))))))))))) .nil))))
    (.cons (.asg 4 (.call i__law_pick (.cons (.nm 0) (.cons (.lst (.cons (.tup (.cons (.fz 6) (.cons (.fz 12) .nil))) (.cons (.tup (.cons (.op .neg (.cons (.k (.int 1)) .nil)) (.cons (.fz 12) .nil))) (.cons (.tup (.cons (.k (.bool true)) (.cons (.fz 12) .nil))) (.cons (.tup (.cons (.k .none) (.cons (.fz 12) .nil))) (.cons (.tup (.cons (.k (.str "0")) (.cons (.fz 12) .nil))) (.cons (.tup (.cons (.fz 11) .nil)) (.cons (.tup (.cons (.fz 11) (.cons (.fz 12) (.cons (.k (.int 0)) .nil)))) (.cons (.k .none) (.cons (.k (.int 0)) (.cons (.tup (.cons (.fz 11) (.cons (.fz 3) .nil))) (.cons (.tup (.cons (.fz 11) (.cons (.fz 3) .nil))) .nil)))))))))))) .nil))))
    (.cons (.asg 5 (.lst (.cons (.tup (.cons (.fz 6) (.cons (.fz 7) (.cons (.op .add (.cons (.op .add (.cons (.op .slH (.cons (.nm 8) (.cons (.nm 9) .nil))) (.cons (.tup (.cons (.fz 4) .nil)) .nil))) (.cons (.op .slL (.cons (.nm 8) (.cons (.op .add (.cons (.nm 9) (.cons (.k (.int 1)) .nil))) .nil))) .nil))) .nil)))) (.cons (.tup (.cons (.fz 6) (.cons (.fz 3) (.cons (.fz 8) .nil)))) (.cons (.tup (.cons (.fz 6) (.cons (.fz 3) (.cons (.fz 8) .nil)))) (.cons (.tup (.cons (.k (.int 0)) (.cons (.fz 7) (.cons (.fz 8) .nil)))) (.cons (.tup (.cons (.k (.int 5)) (.cons (.fz 7) (.cons (.fz 8) .nil)))) (.cons (.tup (.cons (.k (.bool true)) (.cons (.fz 7) (.cons (.fz 8) .nil)))) (.cons (.tup (.cons (.k .none) (.cons (.fz 7) (.cons (.fz 8) .nil)))) (.cons (.tup (.cons (.fz 6) (.cons (.fz 7) (.cons (.tup .nil) .nil)))) (.cons (.tup (.cons (.fz 6) (.cons (.fz 7) .nil))) (.cons (.tup (.cons (.fz 6) (.cons (.fz 7) (.cons (.fz 8) (.cons (.k (.int 0)) .nil))))) (.cons (.tup (.cons (.fz 6) (.cons (.fz 7) (.cons (.op .mul (.cons (.nm 8) (.cons (.k (.int 9)) .nil))) .nil)))) (.cons (.k .none) (.cons (.k (.int 3)) (.cons (.k (.str "s")) (.cons (.tup .nil) .nil)))))))))))))))))
    (.cons (.ret (.call i__law_pick (.cons (.nm 0) (.cons (.fz 5) .nil))))
    .nil))))))))
def B_law_bad_watcher' (i__law_take i__law_pick i__law_times : Nat) : Ss := (.cons (.unp (.tup [(.nm 8), (.nm 9)]) (.fz 1))
    (.cons (.par [10, 11] (.cons (.call i__law_take (.cons (.nm 0) (.cons (.op .len (.cons (.nm 8) .nil)) .nil))) (.cons (.call i__law_take (.cons (.nm 0) (.cons (.op .len (.cons (.nm 9) .nil)) .nil))) .nil)))
    (.cons (.asg 2 (.call i__law_pick (.cons (.nm 0) (.cons (.lst (.cons (.k (.int 0)) (.cons (.k (.int 5)) (.cons (.op .neg (.cons (.k (.int 1)) .nil)) (.cons (.k (.bool true)) (.cons (.k .none) (.cons (.k (.str "2")) (.cons (.tup (.cons (.k (.int 2)) .nil)) .nil)))))))) .nil))))
    (.cons (.asg 3 (.call i__law_times (.cons (.op .add (.cons (.op .slH (.cons (.nm 8) (.cons (.nm 10) .nil))) (.cons (.op .slL (.cons (.nm 8) (.cons (.op .add (.cons (.nm 10) (.cons (.k (.int 1)) .nil))) .nil))) .nil))) .nil)))
    (.cons (.asg 4 (.op .idx (.cons (.nm 9) (.cons (.nm 11) .nil))))
    (.cons (.asg 5 (.call i__law_take (.cons (.nm 0) (.cons (.op .len (.cons (.nm 4) .nil)) .nil))))
    (.cons (.asg 6 (.call i__law_pick (.cons (.nm 0) (.cons (.lst (.cons (.op .len (.cons (.nm 9) .nil)) (.cons (.op .neg (.cons (.k (.int 2)) .nil)) (.cons (.k .none) (.cons (.k (.bool true)) (.cons (.k (.str "0")) (.cons (.tup (.cons (.k (.int 0)) .nil)) .nil))))))) .nil))))
    (.cons (.asg 7 (.lst (.cons (.tup (.cons (.op .add (.cons (.op .add (.cons (.op .slH (.cons (.nm 8) (.cons (.nm 10) .nil))) (.cons (.tup (.cons (.fz 2) .nil)) .nil))) (.cons (.op .slL (.cons (.nm 8) (.cons (.op .add (.cons (.nm 10) (.cons (.k (.int 1)) .nil))) .nil))) .nil))) (.cons (.tup (.cons (.op .mul (.cons (.tup (.cons (.k (.int 0)) .nil)) (.cons (.op .mul (.cons (.nm 3) (.cons (.ife (.op .isin (.cons (.nm 2) (.cons (.tup (.cons (.k (.int 0)) (.cons (.k (.int 5)) .nil))) .nil))) (.nm 2) (.k (.int 1))) .nil))) .nil))) .nil)) .nil))) (.cons (.tup (.cons (.fz 8) (.cons (.tup .nil) .nil))) (.cons (.tup (.cons (.tup .nil) (.cons (.fz 9) .nil))) (.cons (.tup (.cons (.fz 8) (.cons (.k .none) .nil))) (.cons (.tup (.cons (.fz 8) .nil)) (.cons (.tup (.cons (.fz 8) (.cons (.fz 9) (.cons (.k (.int 0)) .nil)))) (.cons (.tup (.cons (.fz 8) (.cons (.op .mul (.cons (.nm 9) (.cons (.k (.int 7)) .nil))) .nil))) (.cons (.k .none) (.cons (.k (.str "w")) (.cons (.k (.int 5)) (.cons (.tup (.cons (.fz 8) (.cons (.op .add (.cons (.op .add (.cons (.op .slH (.cons (.nm 9) (.cons (.nm 11) .nil))) (.cons (.tup (.cons (.op .add (.cons (.op .add (.cons (.op .slH (.cons (.nm 4) (.cons (.nm 5) .nil))) (.cons (.tup (.cons (.fz 6) .nil)) .nil))) (.cons (.op .slL (.cons (.nm 4) (.cons (.op .add (.cons (.nm 5) (.cons (.k (.int 1)) .nil))) .nil))) .nil))) .nil)) .nil))) (.cons (.op .slL (.cons (.nm 9) (.cons (.op .add (.cons (.nm 11) (.cons (.k (.int 1)) .nil))) .nil))) .nil))) .nil))) (.cons (.tup (.cons (.fz 8) (.cons (.op .add (.cons (.op .add (.cons (.op .slH (.cons (.nm 9) (.cons (.nm 11) .nil))) (.cons (.tup (.cons (.op .add (.cons (.nm 4) (.cons (.tup (.cons (.k (.int 0)) .nil)) .nil))) .nil)) .nil))) (.cons (.op .slL (.cons (.nm 9) (.cons (.op .add (.cons (.nm 11) (.cons (.k (.int 1)) .nil))) .nil))) .nil))) .nil))) (.cons (.tup (.cons (.fz 8) (.cons (.op .add (.cons (.op .add (.cons (.op .slH (.cons (.nm 9) (.cons (.nm 11) .nil))) (.cons (.tup (.cons (.op .slL (.cons (.nm 4) (.cons (.k (.int 1)) .nil))) .nil)) .nil))) (.cons (.op .slL (.cons (.nm 9) (.cons (.op .add (.cons (.nm 11) (.cons (.k (.int 1)) .nil))) .nil))) .nil))) .nil))) (.cons (.tup (.cons (.fz 8) (.cons (.op .add (.cons (.op .add (.cons (.op .slH (.cons (.nm 9) (.cons (.nm 11) .nil))) (.cons (.tup (.cons (.k .none) .nil)) .nil))) (.cons (.op .slL (.cons (.nm 9) (.cons (.op .add (.cons (.nm 11) (.cons (.k (.int 1)) .nil))) .nil))) .nil))) .nil))) (.cons (.tup (.cons (.op .mul (.cons (.tup (.cons (.k (.int 1)) .nil)) (.cons (.k (.int 4)) .nil))) (.cons (.tup (.cons (.tup (.cons (.k (.int 0)) .nil)) .nil)) .nil))) .nil)))))))))))))))))
    (.cons (.ret (.call i__law_pick (.cons (.nm 0) (.cons (.fz 7) .nil))))
    .nil)))))))))
def B_law_bad (i__law_take i__law_bad_system i__law_bad_watcher i__law_is_system i__law_pick : Nat) : Ss := (.cons (.unp (.tup [(.nm 7), (.nm 8), (.nm 9), (.nm 10)]) (.fz 1))
    (.cons (.asg 2 (.call i__law_take (.cons (.nm 0) (.cons (.op .len (.cons (.nm 9) .nil)) .nil))))
    (.cons (.par [11, 12] (.cons (.call i__law_bad_system (.cons (.nm 0) (.cons (.op .idx (.cons (.nm 9) (.cons (.nm 2) .nil))) .nil))) (.cons (.call i__law_bad_watcher (.cons (.nm 0) (.cons (.fz 10) .nil))) .nil)))
    (.cons (.ite (.call i__law_is_system (.cons (.fz 11) .nil)) (.cons (.asg 11 (.tup (.cons (.k (.int 2)) (.cons (.tup .nil) (.cons (.tup (.cons (.tup (.cons (.k (.int 0)) (.cons (.tup (.cons (.k (.int 0)) .nil)) .nil))) .nil)) .nil)))))
    .nil) .nil)
    (.cons (.asg 3 (.tup (.cons (.tup (.cons (.k (.int 0)) (.cons (.tup (.cons (.k (.int 0)) .nil)) .nil))) .nil)))
    (.cons (.asg 4 (.tup (.cons (.op .add (.cons (.op .mod (.cons (.op .add (.cons (.op .idx (.cons (.op .idx (.cons (.nm 9) (.cons (.nm 2) .nil))) (.cons (.k (.int 0)) .nil))) (.cons (.call i__law_take (.cons (.nm 0) (.cons (.k (.int 3)) .nil))) .nil))) (.cons (.k (.int 4)) .nil))) (.cons (.k (.int 1)) .nil))) (.cons (.tup (.cons (.k (.int 0)) .nil)) (.cons (.fz 3) .nil)))))
    (.cons (.asg 5 (.op .add (.cons (.op .add (.cons (.op .slH (.cons (.nm 9) (.cons (.nm 2) .nil))) (.cons (.tup (.cons (.fz 11) .nil)) .nil))) (.cons (.op .slL (.cons (.nm 9) (.cons (.op .add (.cons (.nm 2) (.cons (.k (.int 1)) .nil))) .nil))) .nil))))
    (.cons (.asg 6 (.lst (.cons (.tup (.cons (.tup (.cons (.fz 7) (.cons (.fz 8) (.cons (.fz 5) (.cons (.call i__law_pick (.cons (.nm 0) (.cons (.lst (.cons (.fz 10) (.cons (.fz 12) (.cons (.k .none) .nil)))) .nil))) .nil))))) (.cons (.k (.str "system")) .nil))) (.cons (.tup (.cons (.tup (.cons (.call i__law_pick (.cons (.nm 0) (.cons (.lst (.cons (.fz 7) (.cons (.k (.str "any")) .nil))) .nil))) (.cons (.fz 8) (.cons (.fz 5) (.cons (.fz 10) .nil))))) (.cons (.k (.str "system")) .nil))) (.cons (.tup (.cons (.tup (.cons (.fz 7) (.cons (.fz 8) (.cons (.op .mul (.cons (.tup (.cons (.fz 11) .nil)) (.cons (.k (.int 4)) .nil))) (.cons (.fz 10) .nil))))) (.cons (.k (.str "system")) .nil))) (.cons (.tup (.cons (.tup (.cons (.fz 7) (.cons (.fz 8) (.cons (.fz 9) (.cons (.fz 12) .nil))))) (.cons (.k (.str "watcher")) .nil))) (.cons (.tup (.cons (.tup (.cons (.k .none) (.cons (.fz 8) (.cons (.fz 9) (.cons (.fz 12) .nil))))) (.cons (.k (.str "watcher")) .nil))) (.cons (.tup (.cons (.tup (.cons (.fz 7) (.cons (.fz 8) (.cons (.tup .nil) (.cons (.fz 12) .nil))))) (.cons (.k (.str "watcher")) .nil))) (.cons (.tup (.cons (.tup (.cons (.k (.str "any")) (.cons (.fz 8) (.cons (.fz 9) (.cons (.fz 10) .nil))))) (.cons (.k (.str "question")) .nil))) (.cons (.tup (.cons (.tup (.cons (.fz 7) (.cons (.call i__law_pick (.cons (.nm 0) (.cons (.lst (.cons (.op .neg (.cons (.k (.int 1)) .nil)) (.cons (.op .add (.cons (.op .len (.cons (.nm 9) .nil)) (.cons (.k (.int 1)) .nil))) (.cons (.k (.bool true)) (.cons (.k .none) (.cons (.k (.str "0")) .nil)))))) .nil))) (.cons (.fz 9) (.cons (.fz 10) .nil))))) (.cons (.k (.str "question")) .nil))) (.cons (.tup (.cons (.tup (.cons (.fz 7) (.cons (.fz 8) (.cons (.op .slL (.cons (.nm 9) (.cons (.k (.int 1)) .nil))) (.cons (.fz 10) .nil))))) (.cons (.k (.str "question")) .nil))) (.cons (.tup (.cons (.tup (.cons (.fz 7) (.cons (.fz 8) (.cons (.op .add (.cons (.nm 9) (.cons (.op .slH (.cons (.nm 9) (.cons (.k (.int 1)) .nil))) .nil))) (.cons (.fz 10) .nil))))) (.cons (.k (.str "question")) .nil))) (.cons (.tup (.cons (.tup (.cons (.fz 7) (.cons (.fz 8) (.cons (.fz 5) .nil)))) (.cons (.k (.str "question")) .nil))) (.cons (.tup (.cons (.tup (.cons (.fz 7) (.cons (.fz 8) (.cons (.fz 5) (.cons (.fz 12) (.cons (.k (.int 0)) .nil)))))) (.cons (.k (.str "question")) .nil))) (.cons (.tup (.cons (.k .none) (.cons (.k (.str "question")) .nil))) (.cons (.tup (.cons (.k (.str "all")) (.cons (.k (.str "question")) .nil))) (.cons (.tup (.cons (.k (.int 7)) (.cons (.k (.str "question")) .nil))) (.cons (.tup (.cons (.tup (.cons (.fz 7) (.cons (.fz 8) (.cons (.k .none) (.cons (.fz 12) .nil))))) (.cons (.k (.str "question")) .nil))) (.cons (.tup (.cons (.tup (.cons (.fz 7) (.cons (.fz 8) (.cons (.k (.str "s")) (.cons (.fz 10) .nil))))) (.cons (.k (.str "question")) .nil))) (.cons (.tup (.cons (.tup (.cons (.fz 7) (.cons (.fz 8) (.cons (.op .add (.cons (.op .add (.cons (.op .slH (.cons (.nm 9) (.cons (.nm 2) .nil))) (.cons (.tup (.cons (.fz 4) .nil)) .nil))) (.cons (.op .slL (.cons (.nm 9) (.cons (.op .add (.cons (.nm 2) (.cons (.k (.int 1)) .nil))) .nil))) .nil))) (.cons (.fz 10) .nil))))) (.cons (.k (.str "question")) .nil))) .nil))))))))))))))))))))
    (.cons (.ret (.call i__law_pick (.cons (.nm 0) (.cons (.fz 6) .nil))))
    .nil)))))))))
def B_law_is_line : Ss := (.cons (.ite (.or (.not (.op (.isa "tuple") (.cons (.nm 0) .nil))) (.op .eq (.cons (.nm 0) (.cons (.tup .nil) .nil)))) (.cons (.ret (.k (.bool false)))
    .nil) .nil)
    (.cons (.for_ (.nm 2) (.rng (.op .len (.cons (.nm 0) .nil))) (.cons (.ite (.or (.not (.op (.isa "int") (.cons (.op .idx (.cons (.nm 0) (.cons (.nm 2) .nil))) .nil))) (.or (.op (.isa "bool") (.cons (.op .idx (.cons (.nm 0) (.cons (.nm 2) .nil))) .nil)) (.or (.op .lt (.cons (.op .idx (.cons (.nm 0) (.cons (.nm 2) .nil))) (.cons (.k (.int 0)) .nil))) (.or (.op .ge (.cons (.op .idx (.cons (.nm 0) (.cons (.nm 2) .nil))) (.cons (.nm 1) .nil))) (.and (.op .gt (.cons (.nm 2) (.cons (.k (.int 0)) .nil))) (.op .le (.cons (.op .idx (.cons (.nm 0) (.cons (.nm 2) .nil))) (.cons (.op .idx (.cons (.nm 0) (.cons (.op .sub (.cons (.nm 2) (.cons (.k (.int 1)) .nil))) .nil))) .nil)))))))) (.cons (.ret (.k (.bool false)))
    .nil) .nil)
    .nil))
    (.cons (.ret (.k (.bool true)))
    .nil)))
def B_law_leader (i__law_take : Nat) : Ss := (.cons (.ret (.op .tuple (.cons (.lc [2] (.call i__law_take (.cons (.nm 0) (.cons (.op .len (.cons (.op .idx (.cons (.nm 2) (.cons (.k (.int 2)) .nil))) .nil)) .nil))) (.nm 2) (.seq (.op .slH (.cons (.op .idx (.cons (.nm 1) (.cons (.k (.int 2)) .nil))) (.cons (.op .idx (.cons (.nm 1) (.cons (.k (.int 1)) .nil))) .nil))))) .nil)))
    .nil)
def B_law_crowd (i__law_pick i__law_take : Nat) : Ss := (.cons (.asg 2 (.lst .nil))
    (.cons (.for_ (.nm 3) (.rng (.call i__law_pick (.cons (.nm 0) (.cons (.lst (.cons (.k (.int 0)) (.cons (.k (.int 1)) (.cons (.k (.int 2)) (.cons (.k (.int 3)) (.cons (.k (.int 5)) .nil)))))) .nil)))) (.cons (.asg 4 (.tup (.cons (.op .tuple (.cons (.lc [5] (.call i__law_take (.cons (.nm 0) (.cons (.op .len (.cons (.op .idx (.cons (.nm 5) (.cons (.k (.int 2)) .nil))) .nil)) .nil))) (.nm 5) (.seq (.op .slL (.cons (.op .idx (.cons (.nm 1) (.cons (.k (.int 2)) .nil))) (.cons (.op .idx (.cons (.nm 1) (.cons (.k (.int 1)) .nil))) .nil))))) .nil)) (.cons (.call i__law_take (.cons (.nm 0) (.cons (.op .len (.cons (.op .idx (.cons (.op .idx (.cons (.nm 1) (.cons (.k (.int 3)) .nil))) (.cons (.k (.int 1)) .nil))) .nil)) .nil))) .nil))))
    (.cons (.ite (.op .nin (.cons (.nm 4) (.cons (.nm 2) .nil))) (.cons (.mut .app 2 (.cons (.fz 4) .nil))
    .nil) .nil)
    .nil)))
    (.cons (.ret (.op .tuple (.cons (.op .srt (.cons (.nm 2) .nil)) .nil)))
    .nil)))
def B_law_larger (i__law_pick i__law_take i__law_system i__law_watcher : Nat) : Ss := (.cons (.asg 1 (.op .tuple (.cons (.lc [3] (.call i__law_pick (.cons (.nm 0) (.cons (.lst (.cons (.k (.int 2)) (.cons (.k (.int 4)) (.cons (.k (.int 3)) (.cons (.k (.int 4)) .nil))))) .nil))) (.nm 3) (.rng (.op .add (.cons (.k (.int 1)) (.cons (.call i__law_take (.cons (.nm 0) (.cons (.k (.int 2)) .nil))) .nil))))) .nil)))
    (.cons (.asg 2 (.op .tuple (.cons (.lc [4] (.call i__law_system (.cons (.nm 0) (.cons (.fz 4) (.cons (.k (.int 8)) .nil)))) (.nm 4) (.seq (.nm 1))) .nil)))
    (.cons (.ret (.tup (.cons (.call i__law_pick (.cons (.nm 0) (.cons (.lst (.cons (.k (.str "all")) (.cons (.k (.str "some")) .nil))) .nil))) (.cons (.call i__law_take (.cons (.nm 0) (.cons (.op .add (.cons (.op .len (.cons (.nm 1) .nil)) (.cons (.k (.int 1)) .nil))) .nil))) (.cons (.fz 2) (.cons (.call i__law_watcher (.cons (.nm 0) (.cons (.fz 1) (.cons (.k (.int 6)) .nil)))) .nil))))))
    .nil)))
def B_law_gathered (i__law_colours i__law_goes : Nat) : Ss := (.cons (.asg 3 (.call i__law_colours (.cons (.op .slH (.cons (.op .idx (.cons (.nm 0) (.cons (.k (.int 2)) .nil))) (.cons (.op .idx (.cons (.nm 0) (.cons (.k (.int 1)) .nil))) .nil))) (.cons (.fz 2) .nil))))
    (.cons (.asg 4 (.lst .nil))
    (.cons (.asg 5 (.k (.bool false)))
    (.cons (.for_ (.tup [(.nm 6), (.nm 7)]) (.seq (.nm 1)) (.cons (.asg 8 (.call i__law_goes (.cons (.op .idx (.cons (.nm 0) (.cons (.k (.int 3)) .nil))) (.cons (.fz 7) (.cons (.op .add (.cons (.nm 3) (.cons (.call i__law_colours (.cons (.op .slL (.cons (.op .idx (.cons (.nm 0) (.cons (.k (.int 2)) .nil))) (.cons (.op .idx (.cons (.nm 0) (.cons (.k (.int 1)) .nil))) .nil))) (.cons (.fz 6) .nil))) .nil))) .nil)))))
    (.cons (.asg 5 (.or (.nm 5) (.op .lt (.cons (.nm 8) (.cons (.k (.int 0)) .nil)))))
    (.cons (.ite (.and (.op .ge (.cons (.nm 8) (.cons (.k (.int 0)) .nil))) (.op .nin (.cons (.tup (.cons (.fz 6) (.cons (.fz 8) .nil))) (.cons (.nm 4) .nil)))) (.cons (.mut .app 4 (.cons (.tup (.cons (.fz 6) (.cons (.fz 8) .nil))) .nil))
    .nil) .nil)
    .nil))))
    (.cons (.ret (.tup (.cons (.op .tuple (.cons (.op .srt (.cons (.nm 4) .nil)) .nil)) (.cons (.fz 5) .nil))))
    .nil)))))
def B_law_first (i__law_gathered i__law_starts : Nat) : Ss := (.cons (.ret (.call i__law_gathered (.cons (.fz 0) (.cons (.lc [2] (.tup (.cons (.fz 2) (.cons (.k (.int 0)) .nil))) (.nm 2) (.seq (.call i__law_starts (.cons (.op .slL (.cons (.op .idx (.cons (.nm 0) (.cons (.k (.int 2)) .nil))) (.cons (.op .idx (.cons (.nm 0) (.cons (.k (.int 1)) .nil))) .nil))) .nil)))) (.cons (.fz 1) .nil)))))
    .nil)
def B_law_after (i__law_nexts i__law_gathered : Nat) : Ss := (.cons (.asg 3 (.lst .nil))
    (.cons (.for_ (.tup [(.nm 4), (.nm 5)]) (.seq (.nm 1)) (.cons (.asg 3 (.op .add (.cons (.nm 3) (.cons (.lc [6] (.tup (.cons (.fz 6) (.cons (.fz 5) .nil))) (.nm 6) (.seq (.call i__law_nexts (.cons (.op .slL (.cons (.op .idx (.cons (.nm 0) (.cons (.k (.int 2)) .nil))) (.cons (.op .idx (.cons (.nm 0) (.cons (.k (.int 1)) .nil))) .nil))) (.cons (.fz 4) .nil))))) .nil))))
    .nil))
    (.cons (.ret (.call i__law_gathered (.cons (.fz 0) (.cons (.fz 3) (.cons (.fz 2) .nil)))))
    .nil)))
def B_law_number : Ss := (.cons (.ret (.and (.op (.isa "int") (.cons (.nm 0) .nil)) (.and (.not (.op (.isa "bool") (.cons (.nm 0) .nil))) (.and (.op .le (.cons (.nm 1) (.cons (.nm 0) .nil))) (.op .le (.cons (.nm 0) (.cons (.nm 2) .nil)))))))
    .nil)
def B_law_are_states (i__law_number : Nat) : Ss := (.cons (.ite (.or (.not (.op (.isa "tuple") (.cons (.nm 0) .nil))) (.op .ne (.cons (.op .len (.cons (.nm 0) .nil)) (.cons (.op .len (.cons (.nm 1) .nil)) .nil)))) (.cons (.ret (.k (.bool false)))
    .nil) .nil)
    (.cons (.ret (.op .eq (.cons (.lcIf [2] (.fz 2) (.nm 2) (.rng (.op .len (.cons (.nm 0) .nil))) (.not (.call i__law_number (.cons (.op .idx (.cons (.nm 0) (.cons (.nm 2) .nil))) (.cons (.k (.int 0)) (.cons (.op .sub (.cons (.op .len (.cons (.op .idx (.cons (.op .idx (.cons (.nm 1) (.cons (.nm 2) .nil))) (.cons (.k (.int 2)) .nil))) .nil)) (.cons (.k (.int 1)) .nil))) .nil)))))) (.cons (.lst .nil) .nil))))
    .nil))
def B_law_is_crowd (i__law_are_states i__law_number : Nat) : Ss := (.cons (.ite (.not (.op (.isa "tuple") (.cons (.nm 1) .nil))) (.cons (.ret (.k (.bool false)))
    .nil) .nil)
    (.cons (.for_ (.nm 2) (.seq (.nm 1)) (.cons (.ite (.or (.not (.op (.isa "tuple") (.cons (.nm 2) .nil))) (.or (.op .ne (.cons (.op .len (.cons (.nm 2) .nil)) (.cons (.k (.int 2)) .nil))) (.not (.call i__law_are_states (.cons (.op .idx (.cons (.nm 2) (.cons (.k (.int 0)) .nil))) (.cons (.op .slL (.cons (.op .idx (.cons (.nm 0) (.cons (.k (.int 2)) .nil))) (.cons (.op .idx (.cons (.nm 0) (.cons (.k (.int 1)) .nil))) .nil))) .nil)))))) (.cons (.ret (.k (.bool false)))
    .nil) .nil)
    (.cons (.ite (.not (.call i__law_number (.cons (.op .idx (.cons (.nm 2) (.cons (.k (.int 1)) .nil))) (.cons (.k (.int 0)) (.cons (.op .sub (.cons (.op .len (.cons (.op .idx (.cons (.op .idx (.cons (.nm 0) (.cons (.k (.int 3)) .nil))) (.cons (.k (.int 1)) .nil))) .nil)) (.cons (.k (.int 1)) .nil))) .nil))))) (.cons (.ret (.k (.bool false)))
    .nil) .nil)
    .nil)))
    (.cons (.ret (.op .eq (.cons (.lcIf [3] (.fz 3) (.nm 3) (.rng2 (.k (.int 1)) (.op .len (.cons (.nm 1) .nil))) (.op .ge (.cons (.op .idx (.cons (.nm 1) (.cons (.op .sub (.cons (.nm 3) (.cons (.k (.int 1)) .nil))) .nil))) (.cons (.op .idx (.cons (.nm 1) (.cons (.nm 3) .nil))) .nil)))) (.cons (.lst .nil) .nil))))
    .nil)))
def B_law_are_rows (i__law_are_states i__law_is_crowd : Nat) : Ss := (.cons (.ite (.or (.not (.op (.isa "tuple") (.cons (.nm 1) .nil))) (.op .gt (.cons (.op .len (.cons (.nm 1) .nil)) (.cons (.k (.int 400)) .nil)))) (.cons (.ret (.k (.bool false)))
    .nil) .nil)
    (.cons (.for_ (.nm 2) (.seq (.nm 1)) (.cons (.ite (.or (.not (.op (.isa "tuple") (.cons (.nm 2) .nil))) (.or (.op .ne (.cons (.op .len (.cons (.nm 2) .nil)) (.cons (.k (.int 2)) .nil))) (.or (.not (.call i__law_are_states (.cons (.op .idx (.cons (.nm 2) (.cons (.k (.int 0)) .nil))) (.cons (.op .slH (.cons (.op .idx (.cons (.nm 0) (.cons (.k (.int 2)) .nil))) (.cons (.op .idx (.cons (.nm 0) (.cons (.k (.int 1)) .nil))) .nil))) .nil)))) (.not (.call i__law_is_crowd (.cons (.fz 0) (.cons (.op .idx (.cons (.nm 2) (.cons (.k (.int 1)) .nil))) .nil))))))) (.cons (.ret (.k (.bool false)))
    .nil) .nil)
    .nil))
    (.cons (.ret (.k (.bool true)))
    .nil)))
def B_law_are_leaders (i__law_are_states : Nat) : Ss := (.cons (.ite (.or (.not (.op (.isa "tuple") (.cons (.nm 1) .nil))) (.op .gt (.cons (.op .len (.cons (.nm 1) .nil)) (.cons (.k (.int 400)) .nil)))) (.cons (.ret (.k (.bool false)))
    .nil) .nil)
    (.cons (.ret (.op .eq (.cons (.lcIf [2] (.fz 2) (.nm 2) (.seq (.nm 1)) (.not (.call i__law_are_states (.cons (.fz 2) (.cons (.op .slH (.cons (.op .idx (.cons (.nm 0) (.cons (.k (.int 2)) .nil))) (.cons (.op .idx (.cons (.nm 0) (.cons (.k (.int 1)) .nil))) .nil))) .nil))))) (.cons (.lst .nil) .nil))))
    .nil))
def B_law_linked (i__law_starts i__law_nexts : Nat) : Ss := (.cons (.ite (.or (.op .eq (.cons (.nm 1) (.cons (.tup .nil) .nil))) (.op .nin (.cons (.op .idx (.cons (.nm 1) (.cons (.k (.int 0)) .nil))) (.cons (.call i__law_starts (.cons (.op .slH (.cons (.op .idx (.cons (.nm 0) (.cons (.k (.int 2)) .nil))) (.cons (.op .idx (.cons (.nm 0) (.cons (.k (.int 1)) .nil))) .nil))) .nil)) .nil)))) (.cons (.ret (.k (.bool false)))
    .nil) .nil)
    (.cons (.ret (.op .eq (.cons (.lcIf [2] (.fz 2) (.nm 2) (.rng2 (.k (.int 1)) (.op .len (.cons (.nm 1) .nil))) (.op .nin (.cons (.op .idx (.cons (.nm 1) (.cons (.nm 2) .nil))) (.cons (.call i__law_nexts (.cons (.op .slH (.cons (.op .idx (.cons (.nm 0) (.cons (.k (.int 2)) .nil))) (.cons (.op .idx (.cons (.nm 0) (.cons (.k (.int 1)) .nil))) .nil))) (.cons (.op .idx (.cons (.nm 1) (.cons (.op .sub (.cons (.nm 2) (.cons (.k (.int 1)) .nil))) .nil))) .nil))) .nil)))) (.cons (.lst .nil) .nil))))
    .nil))
def B_law_led (i__law_starts i__law_first i__law_nexts i__law_after : Nat) : Ss := (.cons (.asg 2 (.lst .nil))
    (.cons (.for_ (.nm 3) (.seq (.call i__law_starts (.cons (.op .slH (.cons (.op .idx (.cons (.nm 0) (.cons (.k (.int 2)) .nil))) (.cons (.op .idx (.cons (.nm 0) (.cons (.k (.int 1)) .nil))) .nil))) .nil))) (.cons (.asg 5 (.tup (.cons (.fz 3) (.cons (.op .idx (.cons (.call i__law_first (.cons (.fz 0) (.cons (.fz 3) .nil))) (.cons (.k (.int 0)) .nil))) .nil))))
    (.cons (.ite (.op .nin (.cons (.nm 5) (.cons (.nm 2) .nil))) (.cons (.mut .app 2 (.cons (.fz 5) .nil))
    .nil) .nil)
    .nil)))
    (.cons (.for_ (.nm 4) (.rng (.op .add (.cons (.nm 1) (.cons (.k (.int 1)) .nil)))) (.cons (.ite (.or (.op .ge (.cons (.nm 4) (.cons (.op .len (.cons (.nm 2) .nil)) .nil))) (.op .gt (.cons (.op .len (.cons (.nm 2) .nil)) (.cons (.nm 1) .nil)))) (.cons (.ret (.op .len (.cons (.nm 2) .nil)))
    .nil) .nil)
    (.cons (.for_ (.nm 6) (.seq (.call i__law_nexts (.cons (.op .slH (.cons (.op .idx (.cons (.nm 0) (.cons (.k (.int 2)) .nil))) (.cons (.op .idx (.cons (.nm 0) (.cons (.k (.int 1)) .nil))) .nil))) (.cons (.op .idx (.cons (.op .idx (.cons (.nm 2) (.cons (.nm 4) .nil))) (.cons (.k (.int 0)) .nil))) .nil)))) (.cons (.asg 5 (.tup (.cons (.fz 6) (.cons (.op .idx (.cons (.call i__law_after (.cons (.fz 0) (.cons (.op .idx (.cons (.op .idx (.cons (.nm 2) (.cons (.nm 4) .nil))) (.cons (.k (.int 1)) .nil))) (.cons (.fz 6) .nil)))) (.cons (.k (.int 0)) .nil))) .nil))))
    (.cons (.ite (.op .nin (.cons (.nm 5) (.cons (.nm 2) .nil))) (.cons (.mut .app 2 (.cons (.fz 5) .nil))
    .nil) .nil)
    .nil)))
    .nil)))
    (.cons (.ret (.op .len (.cons (.nm 2) .nil)))
    .nil))))
def B_law_told (i_answer : Nat) : Ss := (.cons (.tryC (.cons (.ret (.call i_answer (.cons (.fz 0) .nil)))
    .nil) 1 none 0 6)
    .nil)
def B_law_graph (i__law_starts i__law_first i__law_nexts i__law_after : Nat) : Ss := (.cons (.asg 2 (.lst .nil))
    (.cons (.for_ (.nm 3) (.seq (.call i__law_starts (.cons (.op .slH (.cons (.op .idx (.cons (.nm 0) (.cons (.k (.int 2)) .nil))) (.cons (.op .idx (.cons (.nm 0) (.cons (.k (.int 1)) .nil))) .nil))) .nil))) (.cons (.unp (.tup [(.nm 9), (.nm 10)]) (.call i__law_first (.cons (.fz 0) (.cons (.fz 3) .nil))))
    (.cons (.ite (.or (.op .eq (.cons (.op .idx (.cons (.nm 0) (.cons (.k (.int 0)) .nil))) (.cons (.k (.str "all")) .nil))) (.not (.nm 10))) (.cons (.mut .app 2 (.cons (.tup (.cons (.fz 3) (.cons (.fz 9) .nil))) .nil))
    .nil) .nil)
    .nil)))
    (.cons (.asg 4 (.op .list (.cons (.nm 2) .nil)))
    (.cons (.asg 5 (.lst .nil))
    (.cons (.for_ (.nm 6) (.rng (.op .add (.cons (.nm 1) (.cons (.k (.int 1)) .nil)))) (.cons (.ite (.op .ge (.cons (.nm 6) (.cons (.op .len (.cons (.nm 2) .nil)) .nil))) (.cons .brk
    .nil) .nil)
    (.cons (.unp (.tup [(.nm 3), (.nm 9)]) (.op .idx (.cons (.nm 2) (.cons (.nm 6) .nil))))
    (.cons (.asg 7 (.lst .nil))
    (.cons (.for_ (.nm 8) (.seq (.call i__law_nexts (.cons (.op .slH (.cons (.op .idx (.cons (.nm 0) (.cons (.k (.int 2)) .nil))) (.cons (.op .idx (.cons (.nm 0) (.cons (.k (.int 1)) .nil))) .nil))) (.cons (.fz 3) .nil)))) (.cons (.unp (.tup [(.nm 11), (.nm 10)]) (.call i__law_after (.cons (.fz 0) (.cons (.fz 9) (.cons (.fz 8) .nil)))))
    (.cons (.ite (.or (.op .eq (.cons (.op .idx (.cons (.nm 0) (.cons (.k (.int 0)) .nil))) (.cons (.k (.str "all")) .nil))) (.not (.nm 10))) (.cons (.mut .app 7 (.cons (.tup (.cons (.fz 8) (.cons (.fz 11) .nil))) .nil))
    (.cons (.ite (.op .nin (.cons (.tup (.cons (.fz 8) (.cons (.fz 11) .nil))) (.cons (.nm 2) .nil))) (.cons (.mut .app 2 (.cons (.tup (.cons (.fz 8) (.cons (.fz 11) .nil))) .nil))
    .nil) .nil)
    .nil)) .nil)
    .nil)))
    (.cons (.mut .app 5 (.cons (.fz 7) .nil))
    .nil))))))
    (.cons (.ret (.tup (.cons (.fz 4) (.cons (.fz 2) (.cons (.fz 5) .nil)))))
    .nil))))))
def B_law_endless : Ss := (.cons (.asg 2 (.op .list (.cons (.nm 0) .nil)))
    (.cons (.for_ (.nm 3) (.rng (.op .add (.cons (.op .len (.cons (.nm 0) .nil)) (.cons (.k (.int 1)) .nil)))) (.cons (.asg 4 (.lcIf [5] (.op .idx (.cons (.nm 0) (.cons (.nm 5) .nil))) (.nm 5) (.rng (.op .len (.cons (.nm 0) .nil))) (.and (.op .isin (.cons (.op .idx (.cons (.nm 0) (.cons (.nm 5) .nil))) (.cons (.nm 2) .nil))) (.lcIf [6] (.fz 6) (.nm 6) (.seq (.op .idx (.cons (.nm 1) (.cons (.nm 5) .nil)))) (.op .isin (.cons (.nm 6) (.cons (.nm 2) .nil)))))))
    (.cons (.ite (.op .eq (.cons (.op .len (.cons (.nm 4) .nil)) (.cons (.op .len (.cons (.nm 2) .nil)) .nil))) (.cons (.mv 2)
    .nil) .nil)
    (.cons (.asg 2 (.fz 4))
    .nil))))
    (.cons (.mv 2)
    .nil)))
def B_law_verdict (i__law_graph i__law_endless : Nat) : Ss := (.cons (.unp (.tup [(.nm 3), (.nm 4), (.nm 5)]) (.call i__law_graph (.cons (.fz 0) (.cons (.fz 1) .nil))))
    (.cons (.ite (.op .gt (.cons (.op .len (.cons (.nm 4) .nil)) (.cons (.nm 1) .nil))) (.cons (.ret (.k .none))
    .nil) .nil)
    (.cons (.ite (.op .eq (.cons (.op .idx (.cons (.nm 0) (.cons (.k (.int 0)) .nil))) (.cons (.k (.str "all")) .nil))) (.cons (.ret (.op .nin (.cons (.tup .nil) (.cons (.lc [7, 8] (.fz 8) (.tup [(.nm 7), (.nm 8)]) (.seq (.nm 4))) .nil))))
    .nil) .nil)
    (.cons (.asg 2 (.call i__law_endless (.cons (.fz 4) (.cons (.fz 5) .nil))))
    (.cons (.ret (.op .ne (.cons (.lcIf [6] (.fz 6) (.nm 6) (.seq (.nm 3)) (.op .isin (.cons (.nm 6) (.cons (.nm 2) .nil)))) (.cons (.lst .nil) .nil))))
    .nil)))))
def B_law_turned (i__law_pick i__law_take i__law_turned : Nat) : Ss := (.cons (.ite (.or (.not (.op (.isa "tuple") (.cons (.nm 1) .nil))) (.op .eq (.cons (.nm 1) (.cons (.tup .nil) .nil)))) (.cons (.ret (.call i__law_pick (.cons (.nm 0) (.cons (.lst (.cons (.k (.int 0)) (.cons (.k (.int 1)) (.cons (.k (.int 2)) (.cons (.op .neg (.cons (.k (.int 1)) .nil)) (.cons (.k (.int 5)) (.cons (.k (.bool true)) (.cons (.k (.str "x")) (.cons (.tup .nil) (.cons (.tup (.cons (.k (.int 0)) .nil)) (.cons (.tup (.cons (.tup (.cons (.k (.int 0)) .nil)) (.cons (.k (.int 0)) .nil))) .nil))))))))))) .nil))))
    .nil) .nil)
    (.cons (.asg 2 (.call i__law_take (.cons (.nm 0) (.cons (.op .len (.cons (.nm 1) .nil)) .nil))))
    (.cons (.asg 3 (.call i__law_take (.cons (.nm 0) (.cons (.k (.int 9)) .nil))))
    (.cons (.ite (.op .lt (.cons (.nm 3) (.cons (.k (.int 5)) .nil))) (.cons (.asg 4 (.op .idx (.cons (.nm 1) (.cons (.nm 2) .nil))))
    (.cons (.ite (.and (.op (.isa "int") (.cons (.nm 4) .nil)) (.and (.not (.op (.isa "bool") (.cons (.nm 4) .nil))) (.op .gt (.cons (.call i__law_take (.cons (.nm 0) (.cons (.k (.int 4)) .nil))) (.cons (.k (.int 0)) .nil))))) (.cons (.ret (.op .add (.cons (.op .add (.cons (.op .slH (.cons (.nm 1) (.cons (.nm 2) .nil))) (.cons (.tup (.cons (.op .add (.cons (.nm 4) (.cons (.call i__law_pick (.cons (.nm 0) (.cons (.lst (.cons (.k (.int 1)) (.cons (.op .neg (.cons (.k (.int 1)) .nil)) .nil))) .nil))) .nil))) .nil)) .nil))) (.cons (.op .slL (.cons (.nm 1) (.cons (.op .add (.cons (.nm 2) (.cons (.k (.int 1)) .nil))) .nil))) .nil))))
    .nil) .nil)
    (.cons (.ret (.op .add (.cons (.op .add (.cons (.op .slH (.cons (.nm 1) (.cons (.nm 2) .nil))) (.cons (.tup (.cons (.call i__law_turned (.cons (.nm 0) (.cons (.fz 4) .nil))) .nil)) .nil))) (.cons (.op .slL (.cons (.nm 1) (.cons (.op .add (.cons (.nm 2) (.cons (.k (.int 1)) .nil))) .nil))) .nil))))
    .nil))) .nil)
    (.cons (.ite (.op .eq (.cons (.nm 3) (.cons (.k (.int 5)) .nil))) (.cons (.ret (.op .add (.cons (.op .slH (.cons (.nm 1) (.cons (.nm 2) .nil))) (.cons (.op .slL (.cons (.nm 1) (.cons (.op .add (.cons (.nm 2) (.cons (.k (.int 1)) .nil))) .nil))) .nil))))
    .nil) .nil)
    (.cons (.ite (.op .eq (.cons (.nm 3) (.cons (.k (.int 6)) .nil))) (.cons (.ret (.op .add (.cons (.op .add (.cons (.op .slH (.cons (.nm 1) (.cons (.nm 2) .nil))) (.cons (.tup (.cons (.op .idx (.cons (.nm 1) (.cons (.nm 2) .nil))) .nil)) .nil))) (.cons (.op .slL (.cons (.nm 1) (.cons (.nm 2) .nil))) .nil))))
    .nil) .nil)
    (.cons (.ite (.op .eq (.cons (.nm 3) (.cons (.k (.int 7)) .nil))) (.cons (.ret (.op .add (.cons (.op .slL (.cons (.nm 1) (.cons (.nm 2) .nil))) (.cons (.op .slH (.cons (.nm 1) (.cons (.nm 2) .nil))) .nil))))
    .nil) .nil)
    (.cons (.ret (.op .add (.cons (.op .add (.cons (.op .slH (.cons (.nm 1) (.cons (.nm 2) .nil))) (.cons (.tup (.cons (.call i__law_pick (.cons (.nm 0) (.cons (.lst (.cons (.k (.int 0)) (.cons (.tup .nil) (.cons (.k (.str "no")) (.cons (.tup (.cons (.tup .nil) (.cons (.tup .nil) .nil))) (.cons (.tup (.cons (.tup (.cons (.k (.int 0)) .nil)) (.cons (.tup .nil) .nil))) .nil)))))) .nil))) .nil)) .nil))) (.cons (.op .slL (.cons (.nm 1) (.cons (.nm 2) .nil))) .nil))))
    .nil))))))))
def B_law_told' (i_takes : Nat) : Ss := (.cons (.tryC (.cons (.ret (.call i_takes (.cons (.fz 0) (.cons (.fz 1) .nil))))
    .nil) 2 none 0 6)
    .nil)
def B_law_rings (i__law_pick i__law_take : Nat) : Ss := (.cons (.asg 1 (.call i__law_pick (.cons (.nm 0) (.cons (.lst (.cons (.lst (.cons (.k (.int 8)) (.cons (.k (.int 7)) (.cons (.k (.int 5)) .nil)))) (.cons (.lst (.cons (.k (.int 8)) (.cons (.k (.int 5)) (.cons (.k (.int 7)) .nil)))) (.cons (.lst (.cons (.k (.int 7)) (.cons (.k (.int 5)) (.cons (.k (.int 8)) .nil)))) (.cons (.lst (.cons (.k (.int 8)) (.cons (.k (.int 7)) .nil))) (.cons (.lst (.cons (.k (.int 5)) (.cons (.k (.int 8)) .nil))) (.cons (.lst (.cons (.k (.int 3)) (.cons (.k (.int 4)) (.cons (.k (.int 7)) .nil)))) .nil))))))) .nil))))
    (.cons (.asg 2 (.op .tuple (.cons (.lc [4] (.tup (.cons (.k (.int 2)) (.cons (.tup (.cons (.k (.int 0)) .nil)) (.cons (.op .tuple (.cons (.lc [9] (.tup (.cons (.op .int (.cons (.op .eq (.cons (.nm 9) (.cons (.op .sub (.cons (.op .sub (.cons (.nm 4) (.cons (.k (.int 1)) .nil))) (.cons (.call i__law_take (.cons (.nm 0) (.cons (.k (.int 2)) .nil))) .nil))) .nil))) .nil)) (.cons (.tup (.cons (.op .mod (.cons (.op .int (.cons (.op .add (.cons (.nm 9) (.cons (.k (.int 1)) .nil))) .nil)) (.cons (.nm 4) .nil))) .nil)) .nil))) (.nm 9) (.rng (.nm 4))) .nil)) .nil)))) (.nm 4) (.seq (.nm 1))) .nil)))
    (.cons (.par [6, 7] (.cons (.op .add (.cons (.k (.int 1)) (.cons (.call i__law_take (.cons (.nm 0) (.cons (.k (.int 6)) .nil))) .nil))) (.cons (.call i__law_take (.cons (.nm 0) (.cons (.k (.int 6)) .nil))) .nil)))
    (.cons (.asg 3 (.k (.int 1)))
    (.cons (.for_ (.nm 4) (.seq (.nm 1)) (.cons (.asg 3 (.op .mul (.cons (.nm 3) (.cons (.k (.int 2)) .nil))))
    .nil))
    (.cons (.asg 5 (.lc [8] (.op .add (.cons (.op .mul (.cons (.tup (.cons (.op .mod (.cons (.op .int (.cons (.op .add (.cons (.nm 8) (.cons (.k (.int 1)) .nil))) .nil)) (.cons (.nm 6) .nil))) .nil)) (.cons (.op .sub (.cons (.nm 3) (.cons (.k (.int 1)) .nil))) .nil))) (.cons (.tup (.cons (.ife (.op .eq (.cons (.nm 8) (.cons (.nm 7) .nil))) (.op .neg (.cons (.k (.int 1)) .nil)) (.op .mod (.cons (.op .int (.cons (.op .add (.cons (.nm 8) (.cons (.k (.int 1)) .nil))) .nil)) (.cons (.nm 6) .nil)))) .nil)) .nil))) (.nm 8) (.rng (.nm 6))))
    (.cons (.ret (.tup (.cons (.tup (.cons (.op .mul (.cons (.tup (.cons (.k (.int 2)) .nil)) (.cons (.op .len (.cons (.nm 1) .nil)) .nil))) (.cons (.fz 2) (.cons (.op .tuple (.cons (.nm 5) .nil)) .nil)))) (.cons (.fz 1) .nil))))
    .nil)))))))
def B_law_small (i__law_pick i__law_system i__law_take i__law_watcher : Nat) : Ss := (.cons (.asg 1 (.op .tuple (.cons (.lc [3] (.call i__law_pick (.cons (.nm 0) (.cons (.lst (.cons (.k (.int 2)) (.cons (.k (.int 2)) (.cons (.k (.int 1)) (.cons (.k (.int 3)) .nil))))) .nil))) (.nm 3) (.rng (.call i__law_pick (.cons (.nm 0) (.cons (.lst (.cons (.k (.int 2)) (.cons (.k (.int 2)) (.cons (.k (.int 1)) (.cons (.k (.int 2)) .nil))))) .nil))))) .nil)))
    (.cons (.asg 2 (.op .tuple (.cons (.lc [4] (.call i__law_system (.cons (.nm 0) (.cons (.fz 4) (.cons (.call i__law_pick (.cons (.nm 0) (.cons (.lst (.cons (.k (.int 3)) (.cons (.k (.int 3)) (.cons (.k (.int 4)) (.cons (.k (.int 6)) .nil))))) .nil))) .nil)))) (.nm 4) (.seq (.nm 1))) .nil)))
    (.cons (.ret (.tup (.cons (.call i__law_pick (.cons (.nm 0) (.cons (.lst (.cons (.k (.str "all")) (.cons (.k (.str "some")) .nil))) .nil))) (.cons (.call i__law_take (.cons (.nm 0) (.cons (.op .add (.cons (.op .len (.cons (.nm 1) .nil)) (.cons (.k (.int 1)) .nil))) .nil))) (.cons (.fz 2) (.cons (.call i__law_watcher (.cons (.nm 0) (.cons (.fz 1) (.cons (.k (.int 2)) .nil)))) .nil))))))
    .nil)))
def B_law_said (i_answer : Nat) : Ss := (.cons (.tryR (.cons (.ret (.op .idx (.cons (.call i_answer (.cons (.fz 0) .nil)) (.cons (.k (.int 0)) .nil))))
    .nil) 4 5 (.str "much"))
    .nil)
def B_law_small' (i__law_pick i__law_system i__law_take i__law_watcher : Nat) : Ss := (.cons (.asg 1 (.op .tuple (.cons (.lc [3] (.call i__law_pick (.cons (.nm 0) (.cons (.lst (.cons (.k (.int 2)) (.cons (.k (.int 2)) (.cons (.k (.int 1)) (.cons (.k (.int 3)) .nil))))) .nil))) (.nm 3) (.rng (.call i__law_pick (.cons (.nm 0) (.cons (.lst (.cons (.k (.int 2)) (.cons (.k (.int 2)) (.cons (.k (.int 1)) (.cons (.k (.int 2)) .nil))))) .nil))))) .nil)))
    (.cons (.asg 2 (.op .tuple (.cons (.lc [4] (.call i__law_system (.cons (.nm 0) (.cons (.fz 4) (.cons (.k (.int 3)) .nil)))) (.nm 4) (.seq (.nm 1))) .nil)))
    (.cons (.ret (.tup (.cons (.call i__law_pick (.cons (.nm 0) (.cons (.lst (.cons (.k (.str "all")) (.cons (.k (.str "some")) .nil))) .nil))) (.cons (.call i__law_take (.cons (.nm 0) (.cons (.op .add (.cons (.op .len (.cons (.nm 1) .nil)) (.cons (.k (.int 1)) .nil))) .nil))) (.cons (.fz 2) (.cons (.call i__law_watcher (.cons (.nm 0) (.cons (.fz 1) (.cons (.k (.int 2)) .nil)))) .nil))))))
    .nil)))
end Mp
set_option linter.all false
set_option maxRecDepth 100000
/-! S04: the law's text in our own words -/
namespace Mp
namespace K04
open PySem
def l0 : List Fn := []
def l1 : List Fn := l0 ++ [clsFn]
/-! is_whole -/
def n1 : List Str := ["x"]
def b1 : Ss := B_is_whole
def f1 : Fn := ⟨true, 1, fnRun (ofL l1) 1 b1⟩
def l2 : List Fn := l1 ++ [f1]
/-! is_within -/
def n2 : List Str := ["x", "low", "high"]
def b2 : Ss := B_is_within 1
def f2 : Fn := ⟨true, 3, fnRun (ofL l2) 3 b2⟩
def l3 : List Fn := l2 ++ [f2]
/-! is_rising -/
def n3 : List Str := ["x", "many", "before", "n"]
def b3 : Ss := B_is_rising 2
def f3 : Fn := ⟨true, 2, fnRun (ofL l3) 4 b3⟩
def l4 : List Fn := l3 ++ [f3]
/-! combined -/
def n4 : List Str := ["lists", "found", "things", "one", "thing"]
def b4 : Ss := B_combined
def f4 : Fn := ⟨true, 1, fnRun (ofL l4) 5 b4⟩
def l5 : List Fn := l4 ++ [f4]
/-! is_system -/
def n5 : List Str := ["s", "state", "colours", "starts", "states"]
def b5 : Ss := B_is_system 2 3 "MOST_COLOURS" "MOST_STATES_system"
def f5 : Fn := ⟨true, 1, fnRun (ofL l5) 5 b5⟩
def l6 : List Fn := l5 ++ [f5]
/-! check_system -/
def n6 : List Str := ["s"]
def b6 : Ss := B_check_system 5
def f6 : Fn := ⟨true, 1, fnRun (ofL l6) 1 b6⟩
def l7 : List Fn := l6 ++ [f6]
/-! is_path_of -/
def n7 : List Str := ["s", "path", "state", "k"]
def b7 : Ss := B_is_path_of 2
def f7 : Fn := ⟨true, 2, fnRun (ofL l7) 4 b7⟩
def l8 : List Fn := l7 ++ [f7]
/-! how_many_tuples -/
def n8 : List Str := ["counts", "found", "count"]
def b8 : Ss := B_how_many_tuples
def f8 : Fn := ⟨true, 1, fnRun (ofL l8) 3 b8⟩
def l9 : List Fn := l8 ++ [f8]
/-! is_watcher -/
def n9 : List Str := ["w", "count", "state", "counts", "states", "to"]
def b9 : Ss := B_is_watcher 2 8 "MOST_RUNS" "MOST_COLOURS" "MOST_STATES_watcher"
def f9 : Fn := ⟨true, 1, fnRun (ofL l9) 6 b9⟩
def l10 : List Fn := l9 ++ [f9]
/-! check_watcher -/
def n10 : List Str := ["w"]
def b10 : Ss := B_check_watcher 9
def f10 : Fn := ⟨true, 1, fnRun (ofL l10) 1 b10⟩
def l11 : List Fn := l10 ++ [f10]
/-! place_of -/
def n11 : List Str := ["counts", "colours", "found", "count", "colour"]
def b11 : Ss := B_place_of
def f11 : Fn := ⟨true, 2, fnRun (ofL l11) 5 b11⟩
def l12 : List Fn := l11 ++ [f11]
/-! step -/
def n12 : List Str := ["w", "state", "colours"]
def b12 : Ss := B_step 11
def f12 : Fn := ⟨true, 3, fnRun (ofL l12) 3 b12⟩
def l13 : List Fn := l12 ++ [f12]
/-! goes -/
def n13 : List Str := ["w", "state", "colours"]
def b13 : Ss := B_goes 10 12
def f13 : Fn := ⟨true, 3, fnRun (ofL l13) 3 b13⟩
def l14 : List Fn := l13 ++ [f13]
def l15 : List Fn := l14 ++ [vd]
/-! accepts_paths -/
def n15 : List Str := ["w", "systems", "paths", "s", "state", "k", "path"]
def b15 : Ss := (.cons (.ex (.call 10 (.cons (.fz 0) .nil)))
    .never)
def f15 : Fn := ⟨true, 3, fnRun (ofL l15) 7 b15⟩
def l16 : List Fn := l15 ++ [f15]
/-! all_colours -/
def n16 : List Str := ["counts", "count"]
def b16 : Ss := B_all_colours 4
def f16 : Fn := ⟨true, 1, fnRun (ofL l16) 2 b16⟩
def l17 : List Fn := l16 ++ [f16]
/-! meet -/
def n17 : List Str := ["v", "w", "pairs", "known", "states", "row", "pair", "one", "other"]
def b17 : Ss := (.cons (.ex (.call 10 (.cons (.fz 0) .nil)))
    (.cons (.ex (.call 10 (.cons (.fz 1) .nil)))
    (.cons (.ite (.op .ne (.cons (.op .idx (.cons (.nm 0) (.cons (.k (.int 0)) .nil))) (.cons (.op .idx (.cons (.nm 1) (.cons (.k (.int 0)) .nil))) .nil))) (.cons (.raise 2)
    .nil) .nil)
    .never)))
def f17 : Fn := ⟨true, 2, fnRun (ofL l17) 9 b17⟩
def l18 : List Fn := l17 ++ [f17]
/-! turned -/
def n18 : List Str := ["w", "order", "counts", "states", "state", "row", "colours", "k"]
def b18 : Ss := (.cons (.ex (.call 10 (.cons (.fz 0) .nil)))
    .never)
def f18 : Fn := ⟨true, 2, fnRun (ofL l18) 8 b18⟩
def l19 : List Fn := l18 ++ [f18]
def l20 : List Fn := l19 ++ [vd]
/-! _law_take -/
def n20 : List Str := ["_law_box_here", "_law_m", "_law_at", "_law_cell", "_law_told_here"]
def b20 : Ss := B_law_take
def f20 : Fn := ⟨false, 2, fnRun (ofL l20) 5 b20⟩
def l21 : List Fn := l20 ++ [f20]
/-! _law_pick -/
def n21 : List Str := ["_law_box_here", "_law_menu"]
def b21 : Ss := B_law_pick 20
def f21 : Fn := ⟨false, 2, fnRun (ofL l21) 2 b21⟩
def l22 : List Fn := l21 ++ [f21]
/-! _law_times -/
def n22 : List Str := ["_law_counts", "_law_found", "_law_count"]
def b22 : Ss := B_law_times
def f22 : Fn := ⟨true, 1, fnRun (ofL l22) 3 b22⟩
def l23 : List Fn := l22 ++ [f22]
/-! _law_watcher -/
def n23 : List Str := ["_law_box_here", "_law_counts", "_law_most", "_law_many", "_law_odds", "_law_states", "_law_z", "_law_k"]
def b23 : Ss := B_law_watcher 20 21 22
def f23 : Fn := ⟨false, 3, fnRun (ofL l23) 8 b23⟩
def l24 : List Fn := l23 ++ [f23]
/-! _law_goes -/
def n24 : List Str := ["_law_w", "_law_z", "_law_colours", "_law_at", "_law_k"]
def b24 : Ss := B_law_goes
def f24 : Fn := ⟨true, 3, fnRun (ofL l24) 5 b24⟩
def l25 : List Fn := l24 ++ [f24]
/-! _law_choices -/
def n25 : List Str := ["_law_lists", "_law_found", "_law_things", "_law_longer", "_law_one", "_law_thing"]
def b25 : Ss := B_law_choices
def f25 : Fn := ⟨true, 1, fnRun (ofL l25) 6 b25⟩
def l26 : List Fn := l25 ++ [f25]
/-! _law_bad_watcher -/
def n26 : List Str := ["_law_box_here", "_law_w", "_law_many", "_law_at", "_law_row", "_law_k", "_law_wrong", "_law_bad", "_law_place", "_law_x", "_law_other", "_law_width", "_law_counts", "_law_states"]
def b26 : Ss := (.cons (.unp (.tup [(.nm 12), (.nm 13)]) (.fz 1))
    (.cons (.asg 2 (.op .len (.cons (.nm 13) .nil)))
    (.cons (.asg 3 (.call 20 (.cons (.nm 0) (.cons (.fz 2) .nil))))
    (.cons (.asg 4 (.op .idx (.cons (.nm 13) (.cons (.nm 3) .nil))))
    (.cons (.asg 5 (.call 20 (.cons (.nm 0) (.cons (.op .len (.cons (.nm 4) .nil)) .nil))))
    (.cons (.asg 6 (.op .add (.cons (.lst (.cons (.op .add (.cons (.nm 4) (.cons (.tup (.cons (.k (.int 0)) .nil)) .nil))) (.cons (.op .slL (.cons (.nm 4) (.cons (.k (.int 1)) .nil))) (.cons (.k .none) (.cons (.k (.int 0)) (.cons (.k (.str "")) (.cons (.op .mul (.cons (.tup (.cons (.fz 4) .nil)) (.cons (.op .add (.cons (.k (.int 2)) (.cons (.op .len (.cons (.nm 4) .nil)) .nil))) .nil))) .nil))))))) (.cons (.lc [9] (.op .add (.cons (.op .add (.cons (.op .slH (.cons (.nm 4) (.cons (.nm 5) .nil))) (.cons (.tup (.cons (.fz 9) .nil)) .nil))) (.cons (.op .slL (.cons (.nm 4) (.cons (.op .add (.cons (.nm 5) (.cons (.k (.int 1)) .nil))) .nil))) .nil))) (.nm 9) (.seq (.tup (.cons (.fz 2) (.cons (.op .neg (.cons (.k (.int 2)) .nil)) (.cons (.k (.bool true)) (.cons (.k .none) (.cons (.k (.str "0")) (.cons (.tup (.cons (.k (.int 0)) .nil)) .nil))))))))) .nil))))
    (.cons (.asg 7 (.lc [9] (.tup (.cons (.fz 12) (.cons (.op .add (.cons (.op .add (.cons (.op .slH (.cons (.nm 13) (.cons (.nm 3) .nil))) (.cons (.tup (.cons (.fz 9) .nil)) .nil))) (.cons (.op .slL (.cons (.nm 13) (.cons (.op .add (.cons (.nm 3) (.cons (.k (.int 1)) .nil))) .nil))) .nil))) .nil))) (.nm 9) (.seq (.nm 6))))
    (.cons (.asg 7 (.op .add (.cons (.nm 7) (.cons (.lst (.cons (.tup (.cons (.fz 12) (.cons (.tup .nil) .nil))) (.cons (.tup (.cons (.fz 12) (.cons (.op .mul (.cons (.nm 13) (.cons (.k (.int 7)) .nil))) .nil))) (.cons (.tup (.cons (.fz 12) .nil)) (.cons (.tup (.cons (.fz 12) (.cons (.fz 13) (.cons (.k (.int 0)) .nil)))) (.cons (.tup (.cons (.fz 13) (.cons (.fz 12) .nil))) (.cons (.k .none) (.cons (.k (.int 3)) (.cons (.k (.str "watcher")) (.cons (.tup .nil) (.cons (.tup (.cons (.tup .nil) (.cons (.fz 13) .nil))) (.cons (.tup (.cons (.op .add (.cons (.tup (.cons (.k (.int 0)) .nil)) (.cons (.op .slL (.cons (.nm 12) (.cons (.k (.int 1)) .nil))) .nil))) (.cons (.fz 13) .nil))) (.cons (.tup (.cons (.op .add (.cons (.tup (.cons (.k (.int 5)) .nil)) (.cons (.op .slL (.cons (.nm 12) (.cons (.k (.int 1)) .nil))) .nil))) (.cons (.fz 13) .nil))) (.cons (.tup (.cons (.op .add (.cons (.tup (.cons (.k (.bool true)) .nil)) (.cons (.op .slL (.cons (.nm 12) (.cons (.k (.int 1)) .nil))) .nil))) (.cons (.fz 13) .nil))) (.cons (.tup (.cons (.op .add (.cons (.nm 12) (.cons (.op .mul (.cons (.tup (.cons (.k (.int 1)) .nil)) (.cons (.k (.int 4)) .nil))) .nil))) (.cons (.fz 13) .nil))) (.cons (.tup (.cons (.k .none) (.cons (.fz 13) .nil))) (.cons (.tup (.cons (.fz 12) (.cons (.k .none) .nil))) (.cons (.tup (.cons (.k (.int 1)) (.cons (.fz 13) .nil))) (.cons (.tup (.cons (.op .add (.cons (.nm 12) (.cons (.tup (.cons (.k (.int 2)) .nil)) .nil))) (.cons (.fz 13) .nil))) .nil))))))))))))))))))) .nil))))
    (.cons (.asg 8 (.call 20 (.cons (.nm 0) (.cons (.op .len (.cons (.nm 12) .nil)) .nil))))
    (.cons (.asg 9 (.call 21 (.cons (.nm 0) (.cons (.lst (.cons (.k (.int 0)) (.cons (.k (.int 5)) (.cons (.k (.bool true)) (.cons (.op .neg (.cons (.k (.int 1)) .nil)) (.cons (.k .none) (.cons (.k (.str "2")) .nil))))))) .nil))))
    (.cons (.asg 10 (.op .add (.cons (.op .add (.cons (.op .slH (.cons (.nm 12) (.cons (.nm 8) .nil))) (.cons (.tup (.cons (.fz 9) .nil)) .nil))) (.cons (.op .slL (.cons (.nm 12) (.cons (.op .add (.cons (.nm 8) (.cons (.k (.int 1)) .nil))) .nil))) .nil))))
    (.cons (.asg 11 (.op .len (.cons (.nm 4) .nil)))
    (.cons (.ite (.or (.op .isin (.cons (.nm 9) (.cons (.tup (.cons (.k (.int 0)) (.cons (.k (.int 5)) .nil))) .nil))) (.op (.isC 1) (.cons (.nm 9) .nil))) (.cons (.asg 11 (.call 22 (.cons (.fz 10) .nil)))
    .nil) .nil)
    (.cons (.asg 7 (.op .add (.cons (.nm 7) (.cons (.op .mul (.cons (.lst (.cons (.tup (.cons (.fz 10) (.cons (.tup (.cons (.op .mul (.cons (.tup (.cons (.op .neg (.cons (.k (.int 1)) .nil)) .nil)) (.cons (.nm 11) .nil))) .nil)) .nil))) .nil)) (.cons (.k (.int 4)) .nil))) .nil))))
    (.cons (.ret (.call 21 (.cons (.nm 0) (.cons (.fz 7) .nil))))
    .nil)))))))))))))))
def f26 : Fn := ⟨false, 2, fnRun (ofL l26) 14 b26⟩
def l27 : List Fn := l26 ++ [f26]
/-! _law_told -/
def n27 : List Str := ["_law_way", "_law_w", "_law_other", "_law_e"]
def b27 : Ss := (.cons (.tryC (.cons (.ite (.op .eq (.cons (.nm 0) (.cons (.k (.int 0)) .nil))) (.cons (.ret (.ife (.op (.isC 0) (.cons (.call 10 (.cons (.fz 1) .nil)) .nil)) (.k (.str "let")) (.k (.str "told"))))
    .nil) .nil)
    (.cons (.ite (.op .eq (.cons (.nm 0) (.cons (.k (.int 1)) .nil))) (.cons (.ex (.call 13 (.cons (.fz 1) (.cons (.k (.int 0)) (.cons (.tup (.cons (.k (.int 0)) .nil)) .nil)))))
    .nil) (.cons (.ite (.op .eq (.cons (.nm 0) (.cons (.k (.int 2)) .nil))) (.cons (.ex (.call 15 (.cons (.fz 1) (.cons (.tup (.cons (.k .none) .nil)) (.cons (.tup .nil) .nil)))))
    .nil) (.cons (.ite (.op .eq (.cons (.nm 0) (.cons (.k (.int 3)) .nil))) (.cons (.ex (.call 17 (.cons (.fz 1) (.cons (.fz 2) .nil))))
    .nil) (.cons (.ite (.op .eq (.cons (.nm 0) (.cons (.k (.int 4)) .nil))) (.cons (.ex (.call 17 (.cons (.fz 2) (.cons (.fz 1) .nil))))
    .nil) (.cons (.ex (.call 18 (.cons (.fz 1) (.cons (.tup (.cons (.k (.int 0)) .nil)) .nil))))
    .nil))
    .nil))
    .nil))
    .nil))
    .nil)) 3 (some "refused") 0 6)
    (.cons (.ret (.k (.str "let")))
    .nil))
def f27 : Fn := ⟨true, 3, fnRun (ofL l27) 4 b27⟩
def l28 : List Fn := l27 ++ [f27]
/-! law -/
def nl : List Str := ["_law_script", "_law_box_here", "_law_turn", "_law_counts", "_law_w", "_law_bad", "_law_way", "_law_z", "_law_colours", "_law_c", "_law_k", "_law_count"]
def bl : Ss := (.cons (.for_ (.nm 2) (.rng (.k (.int 3))) (.cons (.asg 3 (.op .tuple (.cons (.lc [10] (.op .add (.cons (.k (.int 1)) (.cons (.call 20 (.cons (.nm 1) (.cons (.k (.int 4)) .nil))) .nil))) (.nm 10) (.rng (.op .add (.cons (.k (.int 1)) (.cons (.call 20 (.cons (.nm 1) (.cons (.k (.int 3)) .nil))) .nil))))) .nil)))
    (.cons (.asg 4 (.call 23 (.cons (.nm 1) (.cons (.fz 3) (.cons (.k (.int 6)) .nil)))))
    (.cons (.ite (.op .ne (.cons (.call 27 (.cons (.k (.int 0)) (.cons (.fz 4) (.cons (.fz 4) .nil)))) (.cons (.k (.str "let")) .nil))) (.cons (.ret (.k (.bool false)))
    .nil) .nil)
    (.cons (.asg 5 (.call 26 (.cons (.nm 1) (.cons (.fz 4) .nil))))
    (.cons (.for_ (.nm 6) (.rng (.k (.int 6))) (.cons (.ite (.op .ne (.cons (.call 27 (.cons (.fz 6) (.cons (.fz 5) (.cons (.fz 4) .nil)))) (.cons (.tup (.cons (.k (.str "refused")) (.cons (.k (.str "watcher")) .nil))) .nil))) (.cons (.ret (.k (.bool false)))
    .nil) .nil)
    .nil))
    (.cons (.for_ (.nm 7) (.rng (.op .len (.cons (.op .idx (.cons (.nm 4) (.cons (.k (.int 1)) .nil))) .nil))) (.cons (.asg 8 (.lc [9] (.call 13 (.cons (.fz 4) (.cons (.fz 7) (.cons (.fz 9) .nil)))) (.nm 9) (.seq (.call 25 (.cons (.lc [11] (.op .rngL (.cons (.nm 11) .nil)) (.nm 11) (.seq (.nm 3))) .nil)))))
    (.cons (.ite (.op .ne (.cons (.op .repr (.cons (.op .tuple (.cons (.nm 8) .nil)) .nil)) (.cons (.op .repr (.cons (.op .idx (.cons (.op .idx (.cons (.nm 4) (.cons (.k (.int 1)) .nil))) (.cons (.nm 7) .nil))) .nil)) .nil))) (.cons (.ret (.k (.bool false)))
    .nil) .nil)
    (.cons (.asg 9 (.op .tuple (.cons (.lc [11] (.call 20 (.cons (.nm 1) (.cons (.fz 11) .nil))) (.nm 11) (.seq (.nm 3))) .nil)))
    (.cons (.ite (.op .ne (.cons (.call 13 (.cons (.fz 4) (.cons (.fz 7) (.cons (.fz 9) .nil)))) (.cons (.call 24 (.cons (.fz 4) (.cons (.fz 7) (.cons (.fz 9) .nil)))) .nil))) (.cons (.ret (.k (.bool false)))
    .nil) .nil)
    .nil)))))
    .nil)))))))
    (.cons (.ret (.op .eq (.cons (.call 27 (.cons (.k (.int 3)) (.cons (.tup (.cons (.fz 3) (.cons (.tup (.cons (.op .mul (.cons (.tup (.cons (.op .neg (.cons (.k (.int 1)) .nil)) .nil)) (.cons (.call 22 (.cons (.fz 3) .nil)) .nil))) .nil)) .nil))) (.cons (.tup (.cons (.op .add (.cons (.nm 3) (.cons (.tup (.cons (.k (.int 1)) .nil)) .nil))) (.cons (.tup (.cons (.op .mul (.cons (.tup (.cons (.op .neg (.cons (.k (.int 1)) .nil)) .nil)) (.cons (.call 22 (.cons (.fz 3) .nil)) .nil))) .nil)) .nil))) .nil)))) (.cons (.tup (.cons (.k (.str "refused")) (.cons (.k (.str "watcher")) .nil))) .nil))))
    .nil))
def run : List Int → Option SR := lawRun (ofL l28) 12 1 bl
end K04
end Mp
set_option Elab.async false
set_option linter.all false
set_option maxRecDepth 100000
set_option maxHeartbeats 4000000
set_option autoImplicit false
/-! Wp: what a run must show, construct by construct (plain Lean, no program) -/
namespace Mp
open PySem
/-- a run's end: a value, an exception -/
def M.wp {α : Type} (m : M α) (r : Rho) (K : α → Rho → Prop) (X : Nat → Rho → Prop) : Prop := match m r with
  | none => False
  | some (.ok a r') => K a r'
  | some (.exc c r') => X c r'
/-- a statement's ends -/
structure Dn where
  nx : Rho → Prop
  rt : SV → List GE → Prop
  bk : Rho → Prop
  ct : Rho → Prop
  xc : Nat → Rho → Prop
def Dn.at (D : Dn) : Option SR → Prop
  | none => False
  | some (.nx r) => D.nx r
  | some (.ret v g) => D.rt v g
  | some (.brk r) => D.bk r
  | some (.cnt r) => D.ct r
  | some (.exc c r) => D.xc c r
section
variable {α β : Type} {m : M α} {f : α → M β} {r r' : Rho} {K K' : α → Rho → Prop} {L : β → Rho → Prop} {X X' : Nat → Rho → Prop}
theorem M.wp_ok {a : α} (h : K a r) : (M.ok a).wp r K X := h
theorem M.wp_get {g : Rho → Option α} {a : α} (e : g r = some a) (h : K a r) : (M.get g).wp r K X := by
  unfold M.wp M.get; rw [e]; exact h
theorem M.wp_bnd (h : m.wp r (fun a r1 => (f a).wp r1 L X) X) : (m.bnd f).wp r L X := by
  unfold M.wp at h
  unfold M.wp M.bnd
  cases e : m r with
  | none => rw [e] at h; exact h
  | some x => cases x <;> (rw [e] at h; exact h)
theorem M.wp_mono (h : m.wp r K X) (k : ∀ a r1, K a r1 → K' a r1) (x : ∀ c r1, X c r1 → X' c r1) : m.wp r K' X' := by
  unfold M.wp at h ⊢
  split at h
  · exact h
  · exact k _ _ h
  · exact x _ _ h
theorem M.wp_some (h : m.wp r K fun _ _ => False) : ∃ a r1, m r = some (.ok a r1) ∧ K a r1 := by
  unfold M.wp at h
  split at h
  · exact h.elim
  · next a r1 e => exact ⟨a, r1, e, h⟩
  · exact h.elim
theorem M.wp_of {a : α} (e : m r = some (.ok a r')) (h : K a r') : m.wp r K X := by
  unfold M.wp; rw [e]; exact h
theorem M.wp_ofX {c : Nat} (e : m r = some (.exc c r')) (h : X c r') : m.wp r K X := by
  unfold M.wp; rw [e]; exact h
end
section
variable (Fs : Nat → Fn)
def wE (e : E) (r : Rho) (K : Opd → Rho → Prop) (X : Nat → Rho → Prop) : Prop := (evE Fs e).wp r K X
def wT (e : E) (r : Rho) (K : SV → Rho → Prop) (X : Nat → Rho → Prop) : Prop := (evT Fs e).wp r K X
def wEs (e : Es) (r : Rho) (K : List Opd → Rho → Prop) (X : Nat → Rho → Prop) : Prop := (evEs Fs e).wp r K X
def wI (e : I) (r : Rho) (K : List D × Option Nat → Rho → Prop) (X : Nat → Rho → Prop) : Prop := (evI Fs e).wp r K X
def wB (e : E) (r : Rho) (K : Bool → Rho → Prop) (X : Nat → Rho → Prop) : Prop := (evB Fs e).wp r K X
def wS (s : S) (r : Rho) (N : Rho → Prop) (R : SV → List GE → Prop) (B C : Rho → Prop) (X : Nat → Rho → Prop) : Prop := Dn.at ⟨N, R, B, C, X⟩ (evS Fs s r)
def wSs (s : Ss) (r : Rho) (N : Rho → Prop) (R : SV → List GE → Prop) (B C : Rho → Prop) (X : Nat → Rho → Prop) : Prop := Dn.at ⟨N, R, B, C, X⟩ (evSs Fs s r)
end
section
variable {Fs : Nat → Fn} {r : Rho} {K : Opd → Rho → Prop} {KT : SV → Rho → Prop} {KB : Bool → Rho → Prop} {Ks : List Opd → Rho → Prop} {KI : List D × Option Nat → Rho → Prop} {X : Nat → Rho → Prop} {N : Rho → Prop} {R : SV → List GE → Prop} {Bk Ct : Rho → Prop} {D : Dn} {i : Nat} {d : Mp.D} {a b c : E} {es : Es}
/-! expressions -/
theorem wE_k (h : K (.d d) r) : wE Fs (.k d) r K X := by unfold wE; rw [evE]; exact h
theorem wE_glob {x : Str} (h : K (.d d) r) : wE Fs (.glob x d) r K X := by unfold wE; rw [evE]; exact h
theorem wE_nm {o : Opd} (e : slotO i r = some o) (h : K o r) : wE Fs (.nm i) r K X := by unfold wE; rw [evE]; exact M.wp_get e h
theorem wE_fz (e : r.at i = some (.dat d)) (h : K (.d d) r) : wE Fs (.fz i) r K X := by
  unfold wE; rw [evE]; exact M.wp_of (r' := r) (a := .d d) (by unfold fzM; rw [e]) h
theorem wE_fzO (e : r.at i = some (.own d)) (h : K (.d d) (r.set i (some (.dat d)))) : wE Fs (.fz i) r K X := by
  unfold wE; rw [evE]; exact M.wp_of (a := .d d) (by unfold fzM; rw [e]) h
theorem wE_op {o : Op} (h : wEs Fs es r (fun os r1 => ∃ x, opFin o os r1 = some x ∧ K x r1) X) : wE Fs (.op o es) r K X := by
  unfold wE; rw [evE]
  exact M.wp_bnd (M.wp_mono h (fun os r1 ⟨x, e, k⟩ => M.wp_get e k) fun _ _ x => x)
theorem wE_tup (h : wEs Fs es r (fun os r1 => ∃ x, tupFin os r1 = some x ∧ K x r1) X) : wE Fs (.tup es) r K X := by
  unfold wE; rw [evE]
  exact M.wp_bnd (M.wp_mono h (fun os r1 ⟨x, e, k⟩ => M.wp_get e k) fun _ _ x => x)
theorem wE_lst (h : wEs Fs es r (fun os r1 => ∃ x, lstFin os r1 = some x ∧ K x r1) X) : wE Fs (.lst es) r K X := by
  unfold wE; rw [evE]
  exact M.wp_bnd (M.wp_mono h (fun os r1 ⟨x, e, k⟩ => M.wp_get e k) fun _ _ x => x)
theorem wEs_nil (h : Ks [] r) : wEs Fs .nil r Ks X := by unfold wEs; rw [evEs]; exact h
theorem wEs_cons (h : wE Fs a r (fun x r1 => wEs Fs es r1 (fun xs r2 => Ks (x :: xs) r2) X) X) : wEs Fs (.cons a es) r Ks X := by
  unfold wEs; rw [evEs]
  exact M.wp_bnd (M.wp_mono h (fun x r1 h1 => M.wp_bnd (M.wp_mono h1 (fun xs r2 h2 => h2) fun _ _ x => x)) fun _ _ x => x)
theorem wE_chain {o o2 : Op} (h : wE Fs a r (fun x r1 => wE Fs b r1 (fun y r2 => ∃ k, opBool o [x, y] r2 = some k ∧ (k = true → wE Fs c r2 (fun z r3 => ∃ w, opFin o2 [y, z] r3 = some w ∧ K w r3) X) ∧ (k = false → K (.d (.bool false)) r2)) X) X) : wE Fs (.chain o o2 a b c) r K X := by
  unfold wE; rw [evE]
  refine M.wp_bnd (M.wp_mono h (fun x r1 h1 => M.wp_bnd (M.wp_mono h1 (fun y r2 ⟨k, e, h2, h3⟩ => M.wp_bnd (M.wp_get e ?_)) fun _ _ x => x)) fun _ _ x => x)
  cases k with
  | true => rw [if_pos rfl]; exact M.wp_bnd (M.wp_mono (h2 rfl) (fun z r3 ⟨w, e, q⟩ => M.wp_get e q) fun _ _ x => x)
  | false => rw [if_neg Bool.false_ne_true]; exact h3 rfl
theorem wE_and (h : wE Fs a r (fun x r1 => ∃ k, truO x r1 = some k ∧ (k = true → wE Fs b r1 K X) ∧ (k = false → ∃ d, datO x = some d ∧ K (.d d) r1)) X) : wE Fs (.and a b) r K X := by
  unfold wE; rw [evE]
  refine M.wp_bnd (M.wp_mono h (fun x r1 ⟨k, e, h2, h3⟩ => M.wp_bnd (M.wp_get e ?_)) fun _ _ x => x)
  cases k with
  | true => rw [if_pos rfl]; exact h2 rfl
  | false =>
    rw [if_neg Bool.false_ne_true]
    obtain ⟨d, e2, q⟩ := h3 rfl
    exact M.wp_get (by rw [e2]; rfl) q
theorem wE_or (h : wE Fs a r (fun x r1 => ∃ k, truO x r1 = some k ∧ (k = true → ∃ d, datO x = some d ∧ K (.d d) r1) ∧ (k = false → wE Fs b r1 K X)) X) : wE Fs (.or a b) r K X := by
  unfold wE; rw [evE]
  refine M.wp_bnd (M.wp_mono h (fun x r1 ⟨k, e, h2, h3⟩ => M.wp_bnd (M.wp_get e ?_)) fun _ _ x => x)
  cases k with
  | false => rw [if_neg Bool.false_ne_true]; exact h3 rfl
  | true =>
    rw [if_pos rfl]
    obtain ⟨d, e2, q⟩ := h2 rfl
    exact M.wp_get (by rw [e2]; rfl) q
theorem wE_not (h : wE Fs a r (fun x r1 => ∃ k, truO x r1 = some k ∧ K (.d (.bool (!k))) r1) X) : wE Fs (.not a) r K X := by
  unfold wE; rw [evE]
  exact M.wp_bnd (M.wp_mono h (fun x r1 ⟨k, e, q⟩ => M.wp_bnd (M.wp_get e (M.wp_ok q))) fun _ _ x => x)
theorem wE_ife (h : wE Fs c r (fun x r1 => ∃ k, truO x r1 = some k ∧ (k = true → wE Fs a r1 K X) ∧ (k = false → wE Fs b r1 K X)) X) : wE Fs (.ife c a b) r K X := by
  unfold wE; rw [evE]
  refine M.wp_bnd (M.wp_mono h (fun x r1 ⟨k, e, h2, h3⟩ => M.wp_bnd (M.wp_get e ?_)) fun _ _ x => x)
  cases k with
  | true => rw [if_pos rfl]; exact h2 rfl
  | false => rw [if_neg Bool.false_ne_true]; exact h3 rfl
theorem wE_asI (h : wE Fs a r (fun x r1 => ∃ y, intO x = some y ∧ K y r1) X) : wE Fs (.asI a) r K X := by
  unfold wE; rw [evE]
  exact M.wp_bnd (M.wp_mono h (fun x r1 ⟨y, e, q⟩ => M.wp_get e q) fun _ _ x => x)
theorem wE_call {f : Nat} (h : wEs Fs es r (fun os r1 => (doCall (Fs f) os).wp r1 (fun v r2 => ∃ o, v.opd = some o ∧ K o r2) X) X) : wE Fs (.call f es) r K X := by
  unfold wE; rw [evE]
  exact M.wp_bnd (M.wp_mono h (fun os r1 h1 => M.wp_bnd (M.wp_mono h1 (fun v r2 ⟨o, e, q⟩ => M.wp_get e q) fun _ _ x => x)) fun _ _ x => x)
/-! a test -/
theorem wB_of {e : E} (h : wE Fs e r (fun x r1 => ∃ k, truO x r1 = some k ∧ KB k r1) X) : wB Fs e r KB X := by
  unfold wB evB
  exact M.wp_bnd (M.wp_mono h (fun x r1 ⟨k, e, q⟩ => M.wp_get e q) fun _ _ x => x)
/-! right sides -/
theorem wT_op {o : Op} (h : wEs Fs es r (fun os r1 => ∃ v, opFinT o (opFin o os r1) = some v ∧ KT v r1) X) : wT Fs (.op o es) r KT X := by
  unfold wT; rw [evT]
  exact M.wp_bnd (M.wp_mono h (fun os r1 ⟨x, e, k⟩ => M.wp_get e k) fun _ _ x => x)
theorem wT_lst (h : wEs Fs es r (fun os r1 => ∃ v, lstFinT (lstFin os r1) = some v ∧ KT v r1) X) : wT Fs (.lst es) r KT X := by
  unfold wT; rw [evT]
  exact M.wp_bnd (M.wp_mono h (fun os r1 ⟨x, e, k⟩ => M.wp_get e k) fun _ _ x => x)
theorem wT_call {f : Nat} (h : wEs Fs es r (fun os r1 => (doCall (Fs f) os).wp r1 KT X) X) : wT Fs (.call f es) r KT X := by
  unfold wT; rw [evT]
  exact M.wp_bnd (M.wp_mono h (fun os r1 h1 => h1) fun _ _ x => x)
/-- neither an operation, a list, a call nor a comprehension -/
def plainE : E → Bool
  | .op .. | .lst .. | .call .. | .lc .. | .lcIf .. | .lc2 .. | .dc .. => false
  | _ => true
theorem wT_of {e : E} (hp : plainE e = true) (h : wE Fs e r (fun x r1 => ∃ v, x.sv = some v ∧ KT v r1) X) : wT Fs e r KT X := by
  have hv : evT Fs e = (evE Fs e).bnd fun x => .get fun _ => x.sv := by
    cases e <;> first | rfl | cases hp
  unfold wT
  rw [hv]
  exact M.wp_bnd (M.wp_mono h (fun x r1 ⟨k, e, q⟩ => M.wp_get e q) fun _ _ x => x)
/-! what is walked -/
theorem wI_seq (h : wE Fs a r (fun x r1 => ∃ p, seqFin x r1 = some p ∧ KI p r1) X) : wI Fs (.seq a) r KI X := by
  unfold wI; rw [evI]
  exact M.wp_bnd (M.wp_mono h (fun x r1 ⟨p, e, q⟩ => M.wp_get e q) fun _ _ x => x)
theorem wI_rng (h : wE Fs a r (fun x r1 => ∃ p, rngFin x r1 = some p ∧ KI p r1) X) : wI Fs (.rng a) r KI X := by
  unfold wI; rw [evI]
  exact M.wp_bnd (M.wp_mono h (fun x r1 ⟨p, e, q⟩ => M.wp_get e q) fun _ _ x => x)
theorem wI_rng2 (h : wE Fs a r (fun x r1 => wE Fs b r1 (fun y r2 => ∃ p, rng2Fin x y r2 = some p ∧ KI p r2) X) X) : wI Fs (.rng2 a b) r KI X := by
  unfold wI; rw [evI]
  exact M.wp_bnd (M.wp_mono h (fun x r1 h1 => M.wp_bnd (M.wp_mono h1 (fun y r2 ⟨p, e, q⟩ => M.wp_get e q) fun _ _ x => x)) fun _ _ x => x)
theorem wI_zip2 (h : wE Fs a r (fun x r1 => wE Fs b r1 (fun y r2 => ∃ p, zip2Fin x y r2 = some p ∧ KI p r2) X) X) : wI Fs (.zip2 a b) r KI X := by
  unfold wI; rw [evI]
  exact M.wp_bnd (M.wp_mono h (fun x r1 h1 => M.wp_bnd (M.wp_mono h1 (fun y r2 ⟨p, e, q⟩ => M.wp_get e q) fun _ _ x => x)) fun _ _ x => x)
theorem wI_zip3 (h : wE Fs a r (fun x r1 => wE Fs b r1 (fun y r2 => wE Fs c r2 (fun z r3 => ∃ p, zip3Fin x y z r3 = some p ∧ KI p r3) X) X) X) : wI Fs (.zip3 a b c) r KI X := by
  unfold wI; rw [evI]
  exact M.wp_bnd (M.wp_mono h (fun x r1 h1 => M.wp_bnd (M.wp_mono h1 (fun y r2 h2 => M.wp_bnd (M.wp_mono h2 (fun z r3 ⟨p, e, q⟩ => M.wp_get e q) fun _ _ x => x)) fun _ _ x => x)) fun _ _ x => x)
theorem wI_enum (h : wE Fs a r (fun x r1 => ∃ p, enumFin x r1 = some p ∧ KI p r1) X) : wI Fs (.enum a) r KI X := by
  unfold wI; rw [evI]
  exact M.wp_bnd (M.wp_mono h (fun x r1 ⟨p, e, q⟩ => M.wp_get e q) fun _ _ x => x)
theorem wI_items (h : wE Fs a r (fun x r1 => ∃ p, itemsFin x r1 = some p ∧ KI p r1) X) : wI Fs (.items a) r KI X := by
  unfold wI; rw [evI]
  exact M.wp_bnd (M.wp_mono h (fun x r1 ⟨p, e, q⟩ => M.wp_get e q) fun _ _ x => x)
/-! comprehensions -/
/-- a turn: what is added is told by the invariant -/
def Turns (own : List Nat) (t : Tg) (m : M (List Mp.D)) (xs : List Mp.D) (Inv : Nat → List Mp.D → Rho → Prop) : Prop := ∀ i x ys r, xs[i]? = some x → Inv i ys r → ∃ r2, asgT t x (wipe r own) = some r2 ∧ m.wp r2 (fun zs r3 => Inv (i + 1) (ys ++ zs) r3) fun _ _ => False
theorem goes_wp {own : List Nat} {t : Tg} {m : M (List Mp.D)} {Inv : Nat → List Mp.D → Rho → Prop} : ∀ (xs ys zs : List Mp.D) (r : Rho), Turns own t m (zs ++ xs) Inv → Inv zs.length ys r → ∃ ws r', goes (turnM own t m) xs r = some (.ok ws r') ∧ Inv (zs ++ xs).length (ys ++ ws) r'
  | [], ys, zs, r, _, h => ⟨[], r, rfl, by simpa using h⟩
  | x :: xs, ys, zs, r, hT, h => by
    obtain ⟨r2, e, w⟩ := hT zs.length x ys r (by simp) h
    obtain ⟨us, r3, e2, h2⟩ := M.wp_some w
    have ht : turnM own t m x r = some (.ok us r3) := by unfold turnM; rw [e]; dsimp only; unfold noExc; rw [e2]
    obtain ⟨ws, r4, e3, h3⟩ := goes_wp xs (ys ++ us) (zs ++ [x]) r3 (by simpa using hT) (by simpa using h2)
    refine ⟨us ++ ws, r4, ?_, by simpa using h3⟩
    unfold goes M.bnd
    rw [ht]
    dsimp only
    rw [e3]
    rfl
theorem comp_wp {own : List Nat} {t : Tg} {m : M (List Mp.D)} {mi : M (List Mp.D × Option Nat)} {KL : List Mp.D → Rho → Prop}
    (h : mi.wp r (fun p r1 => tgIn own t = true ∧ outOwn own p.2 = true ∧ ∃ Inv : Nat → List Mp.D → Rho → Prop, Inv 0 [] (lockO r1 p.2) ∧ Turns own t m p.1 Inv ∧ ∀ ys r2, Inv p.1.length ys r2 → ys.length ≤ lim ∧ KL ys (unlockO r1 (back r1 r2 own) p.2)) X) : (compM own t mi m).wp r KL X := by
  unfold compM
  refine M.wp_bnd (M.wp_mono h (fun p r1 ⟨h1, h2, Inv, h0, hT, hk⟩ => ?_) fun _ _ x => x)
  obtain ⟨ws, r2, e, hI⟩ := goes_wp p.1 [] [] (lockO r1 p.2) (by simpa using hT) h0
  obtain ⟨hl, k⟩ := hk ws r2 (by simpa using hI)
  unfold M.wp
  dsimp only
  rw [h1, h2, Bool.and_self, if_pos rfl, e]
  dsimp only
  rw [if_pos hl]
  exact k
theorem elt1_wp {KL : List Mp.D → Rho → Prop} {e : E} (h : wE Fs e r (fun o r1 => ∃ d, datO o = some d ∧ KL [d] r1) X) : (elt1 (evE Fs e)).wp r KL X := by
  unfold elt1
  exact M.wp_bnd (M.wp_mono h (fun o r1 ⟨d, e, q⟩ => M.wp_get (by rw [e]; rfl) q) fun _ _ x => x)
theorem eltIf_wp {KL : List Mp.D → Rho → Prop} {e c : E} (h : wE Fs c r (fun x r1 => ∃ k, truO x r1 = some k ∧ (k = true → wE Fs e r1 (fun o r2 => ∃ d, datO o = some d ∧ KL [d] r2) X) ∧ (k = false → KL [] r1)) X) : (eltIf (evE Fs e) (evE Fs c)).wp r KL X := by
  unfold eltIf
  refine M.wp_bnd (M.wp_bnd (M.wp_mono h (fun x r1 ⟨k, e, h2, h3⟩ => M.wp_get e ?_) fun _ _ x => x))
  cases k with
  | true => rw [if_pos rfl]; exact elt1_wp (h2 rfl)
  | false => rw [if_neg Bool.false_ne_true]; exact h3 rfl
theorem wE_lc {own : List Nat} {t : Tg} {it : I} {e : E} (h : (compM own t (evI Fs it) (elt1 (evE Fs e))).wp r (fun xs r1 => K (.d (.list xs)) r1) X) : wE Fs (.lc own e t it) r K X := by
  unfold wE; rw [evE]
  exact M.wp_bnd (M.wp_mono h (fun xs r1 q => q) fun _ _ x => x)
theorem wE_lcIf {own : List Nat} {t : Tg} {it : I} {e : E} (h : (compM own t (evI Fs it) (eltIf (evE Fs e) (evE Fs c))).wp r (fun xs r1 => K (.d (.list xs)) r1) X) : wE Fs (.lcIf own e t it c) r K X := by
  unfold wE; rw [evE]
  exact M.wp_bnd (M.wp_mono h (fun xs r1 q => q) fun _ _ x => x)
theorem wE_lc2 {own own2 : List Nat} {t t2 : Tg} {it it2 : I} {e : E} (h : (compM own t (evI Fs it) (elt2 own own2 t2 (evI Fs it2) (elt1 (evE Fs e)))).wp r (fun xs r1 => K (.d (.list xs)) r1) X) : wE Fs (.lc2 own e t it t2 it2 own2) r K X := by
  unfold wE; rw [evE]
  exact M.wp_bnd (M.wp_mono h (fun xs r1 q => q) fun _ _ x => x)
theorem wT_lc {own : List Nat} {t : Tg} {it : I} {e : E} (h : (compM own t (evI Fs it) (elt1 (evE Fs e))).wp r (fun xs r1 => KT (.own (.list xs)) r1) X) : wT Fs (.lc own e t it) r KT X := by
  unfold wT; rw [evT]
  exact M.wp_bnd (M.wp_mono h (fun xs r1 q => q) fun _ _ x => x)
theorem wT_lcIf {own : List Nat} {t : Tg} {it : I} {e : E} (h : (compM own t (evI Fs it) (eltIf (evE Fs e) (evE Fs c))).wp r (fun xs r1 => KT (.own (.list xs)) r1) X) : wT Fs (.lcIf own e t it c) r KT X := by
  unfold wT; rw [evT]
  exact M.wp_bnd (M.wp_mono h (fun xs r1 q => q) fun _ _ x => x)
theorem wT_lc2 {own own2 : List Nat} {t t2 : Tg} {it it2 : I} {e : E} (h : (compM own t (evI Fs it) (elt2 own own2 t2 (evI Fs it2) (elt1 (evE Fs e)))).wp r (fun xs r1 => KT (.own (.list xs)) r1) X) : wT Fs (.lc2 own e t it t2 it2 own2) r KT X := by
  unfold wT; rw [evT]
  exact M.wp_bnd (M.wp_mono h (fun xs r1 q => q) fun _ _ x => x)
theorem elt2_wp {own own2 : List Nat} {t2 : Tg} {mi : M (List Mp.D × Option Nat)} {m : M (List Mp.D)} {KL : List Mp.D → Rho → Prop}
    (h : mi.wp r (fun q r1 => q.2 = none ∧ tgIn own2 t2 = true ∧ own2.all own.contains = true ∧ ∃ Inv : Nat → List Mp.D → Rho → Prop, Inv 0 [] r1 ∧ Turns own2 t2 m q.1 Inv ∧ ∀ ys r2, Inv q.1.length ys r2 → KL ys r2) X) : (elt2 own own2 t2 mi m).wp r KL X := by
  unfold elt2
  refine M.wp_bnd (M.wp_mono h (fun q r1 ⟨h1, h2, h3, Inv, h0, hT, hk⟩ => ?_) fun _ _ x => x)
  rw [h1, h2, h3, if_neg (by decide)]
  obtain ⟨ws, r2, e, hI⟩ := goes_wp q.1 [] [] r1 (by simpa using hT) h0
  exact M.wp_of e (hk ws r2 (by simpa using hI))
/-! statements -/
theorem Dn.at_mono {D' : Dn} {z : Option SR} (h : D.at z) (h1 : ∀ r, D.nx r → D'.nx r) (h2 : ∀ v g, D.rt v g → D'.rt v g) (h3 : ∀ r, D.bk r → D'.bk r) (h4 : ∀ r, D.ct r → D'.ct r) (h5 : ∀ c r, D.xc c r → D'.xc c r) : D'.at z := by
  unfold Dn.at at h ⊢
  split at h
  · exact h
  · exact h1 _ h
  · exact h2 _ _ h
  · exact h3 _ h
  · exact h4 _ h
  · exact h5 _ _ h
theorem then_wp {α : Type} {m : M α} {f : α → Rho → Option SR} (h : m.wp r (fun a r1 => D.at (f a r1)) D.xc) : D.at (m.then f r) := by
  unfold M.wp at h
  unfold M.then
  cases e : m r with
  | none => rw [e] at h; exact h.elim
  | some x => cases x <;> (rw [e] at h; exact h)
theorem wSs_nil (h : N r) : wSs Fs .nil r N R Bk Ct X := by unfold wSs; rw [evSs]; exact h
theorem wSs_cons {s : S} {ss : Ss} (h : wS Fs s r (fun r1 => wSs Fs ss r1 N R Bk Ct X) R Bk Ct X) : wSs Fs (.cons s ss) r N R Bk Ct X := by
  unfold wSs; rw [evSs]; dsimp only
  unfold wS at h
  cases e : evS Fs s r with
  | none => rw [e] at h; exact h
  | some x => cases x <;> (rw [e] at h; exact h)
theorem wS_asg {e : E} (h : wT Fs e r (fun v r1 => ∃ r2, wr r1 i v = some r2 ∧ N r2) X) : wS Fs (.asg i e) r N R Bk Ct X := by
  unfold wS; rw [evS]
  exact then_wp (M.wp_mono h (fun v r1 ⟨r2, e, k⟩ => by rw [e]; exact k) fun _ _ x => x)
theorem wS_asgB {e : E} (h : wT Fs e r (fun v r1 => ∃ d r2, v = .own d ∧ wr { r1 with g := r1.g ++ [GE.lst d] } i (.gl r1.g.length) = some r2 ∧ N r2) X) : wS Fs (.asgB i e) r N R Bk Ct X := by
  unfold wS; rw [evS]
  exact then_wp (M.wp_mono h (fun v r1 ⟨d, r2, hv, e, k⟩ => by subst hv; dsimp only; rw [e]; exact k) fun _ _ x => x)
theorem wS_unp {t : Tg} {e : E} (h : wE Fs e r (fun x r1 => ∃ d r2, x = .d d ∧ asgT t d r1 = some r2 ∧ N r2) X) : wS Fs (.unp t e) r N R Bk Ct X := by
  unfold wS; rw [evS]
  exact then_wp (M.wp_mono h (fun v r1 ⟨d, r2, hv, e, k⟩ => by subst hv; dsimp only; rw [e]; exact k) fun _ _ x => x)
theorem wS_par {is : List Nat} (h : wEs Fs es r (fun xs r1 => ∃ ds r2, datsO xs = some ds ∧ asgPar is ds r1 = some r2 ∧ N r2) X) : wS Fs (.par is es) r N R Bk Ct X := by
  unfold wS; rw [evS]
  exact then_wp (M.wp_mono h (fun v r1 ⟨d, r2, hv, e, k⟩ => by rw [hv]; dsimp only; rw [e]; exact k) fun _ _ x => x)
theorem wS_ex {e : E} (h : wE Fs e r (fun _ r1 => N r1) X) : wS Fs (.ex e) r N R Bk Ct X := by
  unfold wS; rw [evS]
  exact then_wp (M.wp_mono h (fun v r1 k => k) fun _ _ x => x)
theorem wS_ret {e : E} (h : wT Fs e r (fun v r1 => R v r1.g) X) : wS Fs (.ret e) r N R Bk Ct X := by
  unfold wS; rw [evS]
  exact then_wp (M.wp_mono h (fun v r1 k => k) fun _ _ x => x)
theorem wS_mvD (e : r.at i = some (.dat d)) (h : R (.dat d) r.g) : wS Fs (.mv i) r N R Bk Ct X := by unfold wS; rw [evS]; dsimp only; rw [e]; exact h
theorem wS_mvO (e : r.at i = some (.own d)) (h : R (.own d) r.g) : wS Fs (.mv i) r N R Bk Ct X := by unfold wS; rw [evS]; dsimp only; rw [e]; exact h
theorem wS_retN (h : R (.dat .none) r.g) : wS Fs .retN r N R Bk Ct X := by unfold wS; rw [evS]; exact h
theorem wS_ite {A B : Ss} (h : wE Fs c r (fun x r1 => ∃ k, truO x r1 = some k ∧ (k = true → wSs Fs A r1 N R Bk Ct X) ∧ (k = false → wSs Fs B r1 N R Bk Ct X)) X) : wS Fs (.ite c A B) r N R Bk Ct X := by
  unfold wS; rw [evS]
  refine then_wp (wB_of (M.wp_mono h (fun x r1 ⟨k, e, h1, h2⟩ => ⟨k, e, ?_⟩) fun _ _ x => x))
  cases k with
  | true => rw [if_pos rfl]; exact h1 rfl
  | false => rw [if_neg Bool.false_ne_true]; exact h2 rfl
theorem wS_brk (h : Bk r) : wS Fs .brk r N R Bk Ct X := by unfold wS; rw [evS]; exact h
theorem wS_cnt (h : Ct r) : wS Fs .cnt r N R Bk Ct X := by unfold wS; rw [evS]; exact h
theorem wS_pass (h : N r) : wS Fs .pass r N R Bk Ct X := by unfold wS; rw [evS]; exact h
theorem wS_raise {n : Nat} (h : X n r) : wS Fs (.raise n) r N R Bk Ct X := by unfold wS; rw [evS]; exact h
theorem wS_aug {o : Op} {e : E} (hi : intAt r i = true) (h : wE Fs e r (fun x r1 => Dn.at ⟨N, R, Bk, Ct, X⟩ (augM i o x r1)) X) : wS Fs (.aug i o e) r N R Bk Ct X := by
  unfold wS; rw [evS]; dsimp only; rw [hi, if_pos rfl]
  exact then_wp h
theorem wS_mut {m : Mu} (hi : guardM m i r = true) (h : wEs Fs es r (fun os r1 => Dn.at ⟨N, R, Bk, Ct, X⟩ (mutS m i os r1)) X) : wS Fs (.mut m i es) r N R Bk Ct X := by
  unfold wS; rw [evS]; dsimp only; rw [hi, if_pos rfl]
  exact then_wp h
theorem forL_wp {body : Mp.D → Rho → Option SR} {Inv : Nat → Rho → Prop} {D' : Dn} : ∀ (xs zs : List Mp.D) (r : Rho), (∀ j x r, (zs ++ xs)[j]? = some x → Inv j r → Dn.at { nx := Inv (j + 1), rt := D'.rt, bk := D'.nx, ct := Inv (j + 1), xc := D'.xc } (body x r)) → (∀ r, Inv (zs ++ xs).length r → D'.nx r) → Inv zs.length r → D'.at (forL body xs r)
  | [], zs, r, _, hd, h => hd r (by simpa using h)
  | x :: xs, zs, r, hb, hd, h => by
    have := hb zs.length x r (by simp) h
    unfold forL
    cases e : body x r with
    | none => rw [e] at this; exact this
    | some y =>
      rw [e] at this
      cases y with
      | nx r1 => exact forL_wp xs (zs ++ [x]) r1 (by simpa using hb) (by simpa using hd) (by simpa [Dn.at] using this)
      | cnt r1 => exact forL_wp xs (zs ++ [x]) r1 (by simpa using hb) (by simpa using hd) (by simpa [Dn.at] using this)
      | brk r1 => exact this
      | ret v g => exact this
      | exc c r1 => exact this
/-- for: an invariant over the turn and the state -/
theorem wS_for {t : Tg} {it : I} {B : Ss} (h : wI Fs it r (fun p r1 => ∃ Inv : Nat → Rho → Prop, Inv 0 (lockO r1 p.2) ∧
      (∀ j x r2, p.1[j]? = some x → Inv j r2 → ∃ r3, asgT t x r2 = some r3 ∧ wSs Fs B r3 (Inv (j + 1)) R (fun r4 => N (unlockO r1 r4 p.2)) (Inv (j + 1)) (fun c r4 => X c (unlockO r1 r4 p.2))) ∧
      ∀ r2, Inv p.1.length r2 → N (unlockO r1 r2 p.2)) X) : wS Fs (.for_ t it B) r N R Bk Ct X := by
  unfold wS; rw [evS]
  refine then_wp (M.wp_mono h (fun p r1 ⟨Inv, h0, hb, hd⟩ => ?_) fun _ _ x => x)
  have := forL_wp (D' := { nx := fun r4 => N (unlockO r1 r4 p.2), rt := R, bk := fun _ => False, ct := fun _ => False, xc := fun c r4 => X c (unlockO r1 r4 p.2) }) (Inv := Inv) (body := fun x r => match asgT t x r with
      | none => none
      | some r' => evSs Fs B r') p.1 [] (lockO r1 p.2) (fun j x r2 e hI => by
    obtain ⟨r3, e3, w⟩ := hb j x r2 (by simpa using e) hI
    dsimp only
    rw [e3]
    exact w) (fun r2 hI => hd r2 (by simpa using hI)) h0
  cases e : forL (fun x r => match asgT t x r with
      | none => none
      | some r' => evSs Fs B r') p.1 (lockO r1 p.2) with
  | none => rw [e] at this; exact this.elim
  | some y =>
    rw [e] at this
    cases y with
    | nx r2 => exact this
    | ret v g => exact this
    | exc c r2 => exact this
    | brk _ => exact this.elim
    | cnt _ => exact this.elim
/-- while: by a measure -/
theorem whileL_wp {test : M Bool} {body : Rho → Option SR} {Inv : Nat → Rho → Prop} {D' : Dn} (hs : ∀ m r, Inv m r → test.wp r (fun k r1 => (k = true → Dn.at { nx := fun r2 => ∃ m', m' < m ∧ Inv m' r2, rt := D'.rt, bk := D'.nx, ct := fun r2 => ∃ m', m' < m ∧ Inv m' r2, xc := D'.xc } (body r1)) ∧ (k = false → D'.nx r1)) D'.xc) :
    ∀ (n m : Nat) (r : Rho), m < n → Inv m r → D'.at (whileL test body n r)
  | 0, m, r, h, _ => absurd h (Nat.not_lt_zero _)
  | n + 1, m, r, h, hI => by
    have w := hs m r hI
    unfold M.wp at w
    unfold whileL
    cases e : test r with
    | none => rw [e] at w; exact w.elim
    | some x =>
      rw [e] at w
      cases x with
      | exc c r1 => exact w
      | ok k r1 =>
        cases k with
        | false => exact w.2 rfl
        | true =>
          have w2 := w.1 rfl
          dsimp only
          cases e2 : body r1 with
          | none => rw [e2] at w2; exact w2
          | some y =>
            rw [e2] at w2
            cases y with
            | nx r2 => obtain ⟨m', hm, hI'⟩ := w2; exact whileL_wp hs n m' r2 (by omega) hI'
            | cnt r2 => obtain ⟨m', hm, hI'⟩ := w2; exact whileL_wp hs n m' r2 (by omega) hI'
            | brk r2 => exact w2
            | ret v g => exact w2
            | exc c r2 => exact w2
theorem wS_while {B : Ss} (Inv : Nat → Rho → Prop) (m : Nat) (hm : m < whileMost) (h0 : Inv m r) (hs : ∀ m r, Inv m r → wE Fs c r (fun x r1 => ∃ k, truO x r1 = some k ∧ (k = true → wSs Fs B r1 (fun r2 => ∃ m', m' < m ∧ Inv m' r2) R N (fun r2 => ∃ m', m' < m ∧ Inv m' r2) X) ∧ (k = false → N r1)) X) : wS Fs (.while_ c B) r N R Bk Ct X := by
  unfold wS; rw [evS]
  exact whileL_wp (Inv := Inv) (D' := ⟨N, R, Bk, Ct, X⟩) (fun m r hI => wB_of (hs m r hI)) _ m r hm h0
/-- try: body, except as n: return what is told -/
theorem wS_tryC {B : Ss} {tg : Option Str} {f nx : Nat} (h : wSs Fs B r N R Bk Ct (fun c r1 => ∃ d, told tg nx c ((Fs f).run [.exc c] []) = some d ∧ R (.dat d) r1.g)) : wS Fs (.tryC B i tg f nx) r N R Bk Ct X := by
  unfold wS; rw [evS]; dsimp only
  unfold wSs at h
  cases e : evSs Fs B r with
  | none => rw [e] at h; exact h
  | some y =>
    rw [e] at h
    cases y with
    | exc c r1 => obtain ⟨d, e2, k⟩ := h; dsimp only; rw [e2]; exact k
    | _ => exact h
theorem wS_tryR {B : Ss} {n nx : Nat} (hn : n ≠ 0) (h : wSs Fs B r N R Bk Ct (fun c r1 => c < nx ∧ if c = n then R (.dat d) r1.g else X c r1)) : wS Fs (.tryR B n nx d) r N R Bk Ct X := by
  unfold wS; rw [evS]; dsimp only
  unfold wSs at h
  cases e : evSs Fs B r with
  | none => rw [e] at h; exact h
  | some y =>
    rw [e] at h
    cases y with
    | exc c r1 =>
      obtain ⟨h1, h2⟩ := h
      dsimp only
      rw [if_pos ⟨h1, hn⟩]
      split
      · next z => rw [if_pos z] at h2; exact h2
      · next z => rw [if_neg z] at h2; exact h2
    | _ => exact h
end
/-! what is asked of an end -/
theorem exO {α : Type} {z : Option α} {a : α} {K : α → Prop} (e : z = some a) (h : K a) : ∃ x, z = some x ∧ K x := ⟨a, e, h⟩
theorem exB {z : Option Bool} {k : Bool} {A B : Bool → Prop} (e : z = some k) (h1 : k = true → A k) (h2 : k = false → B k) : ∃ x, z = some x ∧ (x = true → A x) ∧ (x = false → B x) := ⟨k, e, h1, h2⟩
/-! defs -/
def CR.at (KR : SV → List GE → Prop) (X : Nat → List GE → Prop) : Option CR → Prop
  | none => False
  | some (.ret v g) => KR v g
  | some (.exc c g) => X c g
theorem fnRun_wp {Fs : Nat → Fn} {n : Nat} {b : Ss} {vs : List SV} {g : List GE} {KR : SV → List GE → Prop} {X : Nat → List GE → Prop} (h : wSs Fs b ⟨vs.map some ++ List.replicate (n - vs.length) none, g⟩ (fun r => KR (.dat .none) r.g) KR (fun _ => False) (fun _ => False) fun c r => X c r.g) : CR.at KR X (fnRun Fs n b vs g) := by
  unfold wSs at h
  unfold fnRun
  cases e : evSs Fs b ⟨vs.map some ++ List.replicate (n - vs.length) none, g⟩ with
  | none => rw [e] at h; exact h
  | some y => rw [e] at h; cases y <;> first | exact h | exact h.elim
theorem CR.at_ret {KR : SV → List GE → Prop} {z : Option CR} (h : CR.at KR (fun _ _ => False) z) : ∃ v g, z = some (.ret v g) ∧ KR v g := by
  unfold CR.at at h
  split at h
  · exact h.elim
  · exact ⟨_, _, rfl, h⟩
  · exact h.elim
/-- the call of a def that leaves the store alone, upon data -/
theorem call_pure {F : Fn} {os : List Opd} {r : Rho} {ds : List D} {K : SV → Rho → Prop} {X : Nat → Rho → Prop} (hp : F.pu = true) (hn : F.n = ds.length) (ho : datsO os = some ds) (h : CR.at (fun v _ => v.out = true ∧ K v r) (fun c _ => X c r) (F.run (ds.map .dat) [])) : (doCall F os).wp r K X := by
  have ha : argsSV r os = some (ds.map .dat, false) := by
    have : ∀ (os : List Opd) (ds : List D), datsO os = some ds → argsSV r os = some (ds.map .dat, false) := by
      intro os
      induction os with
      | nil => intro ds h; cases h; rfl
      | cons o os ih =>
        intro ds h
        cases o with
        | d x =>
          unfold datsO at h
          obtain ⟨es, h1, rfl⟩ := Option.map_eq_some_iff.mp h
          unfold argsSV
          rw [ih es h1]
          rfl
        | _ => cases h
    exact this os ds ho
  have hg : (ds.map SV.dat).any SV.isGl = false := by
    induction ds with
    | nil => rfl
    | cons d ds ih => simp [SV.isGl]
  unfold M.wp doCall
  rw [ha]
  dsimp only
  rw [if_neg (by simp [hn]), if_pos hp, hg, if_neg Bool.false_ne_true]
  cases e : F.run (ds.map .dat) [] with
  | none => rw [e] at h; exact h
  | some z =>
    rw [e] at h
    cases z with
    | ret v g => obtain ⟨h1, h2⟩ := h; dsimp only; rw [h1]; exact h2
    | exc c g => exact h
end Mp
set_option Elab.async false
set_option linter.all false
set_option maxRecDepth 100000
set_option maxHeartbeats 400000
/-! Lp1: what the defs of the package tell, first part (plain Lean) -/
namespace Mp
open PySem
/-! numbers -/
def withinB : D → Int → Int → Bool
  | .int i, lo, hi => decide (lo ≤ i) && decide (i ≤ hi)
  | _, _, _ => false
def risingL (many : Int) : Int → List D → Bool
  | _, [] => true
  | b, x :: r => match x with
    | .int n => withinB x (b + 1) (many - 1) && risingL many n r
    | _ => false
def risingB (many : Int) : D → Bool
  | .tuple xs => risingL many (-1) xs
  | _ => false
/-- ends with this -/
def RetV (z : Option CR) (v : SV) : Prop := CR.at (fun w _ => w = v) (fun _ _ => False) z
def Exc (z : Option CR) (c : Nat) : Prop := CR.at (fun _ _ => False) (fun e _ => e = c) z
section
variable {Fs : Nat → Fn} {F : Fn} {os : List Opd} {r : Rho} {K : SV → Rho → Prop} {X : Nat → Rho → Prop}
theorem call_ret {ds : List D} {v : SV} (hp : F.pu = true) (hn : F.n = ds.length) (ho : datsO os = some ds) (h : RetV (F.run (ds.map .dat) []) v) (hv : v.out = true) (k : K v r) : (doCall F os).wp r K X := by
  refine call_pure hp hn ho ?_
  unfold RetV CR.at at h
  unfold CR.at
  split at h
  · exact h
  · subst h; exact ⟨hv, k⟩
  · exact h.elim
theorem call_exc {ds : List D} {c : Nat} (hp : F.pu = true) (hn : F.n = ds.length) (ho : datsO os = some ds) (h : Exc (F.run (ds.map .dat) []) c) (k : X c r) : (doCall F os).wp r K X := by
  refine call_pure hp hn ho ?_
  unfold Exc CR.at at h
  unfold CR.at
  split at h
  · exact h
  · exact h.elim
  · subst h; exact k
theorem fnRun_go {n : Nat} {b : Ss} {vs : List SV} {sl : List (Option SV)} {g : List GE} {KR : SV → List GE → Prop} {X : Nat → List GE → Prop} (e : vs.map some ++ List.replicate (n - vs.length) none = sl) (h : wSs Fs b ⟨sl, g⟩ (fun r => KR (.dat .none) r.g) KR (fun _ => False) (fun _ => False) fun c r => X c r.g) : CR.at KR X (fnRun Fs n b vs g) := by
  subst e; exact fnRun_wp h
/-- a slot that may be written -/
def Jk : Option SV → Prop
  | some (.lck _) => False
  | _ => True
theorem wr_jk {i : Nat} {v : SV} (h : Jk (r.at i)) : wr r i v = some (r.set i (some v)) := by
  unfold wr
  split
  · next e => rw [e] at h; exact h.elim
  · rfl
theorem jk_none : Jk none := trivial
theorem jk_dat {d : D} : Jk (some (.dat d)) := trivial
theorem jk_own {d : D} : Jk (some (.own d)) := trivial
end
theorem tb {b : Bool} : truth (.bool b) = b := rfl
theorem exU {t : Tg} {d : D} {r r2 : Rho} {N : Rho → Prop} (e : asgT t d r = some r2) (h : N r2) : ∃ d' r2', Opd.d d = Opd.d d' ∧ asgT t d' r = some r2' ∧ N r2' := ⟨d, r2, rfl, e, h⟩
structure WholeOk (F : Fn) : Prop where
  pu : F.pu = true
  n : F.n = 1
  run : ∀ x, RetV (F.run [.dat x] []) (.dat (.bool (x.isInt && !x.isBool)))
structure WithinOk (F : Fn) : Prop where
  pu : F.pu = true
  n : F.n = 3
  run : ∀ x lo hi, RetV (F.run [.dat x, .dat (.int lo), .dat (.int hi)] []) (.dat (.bool (withinB x lo hi)))
structure RisingOk (F : Fn) : Prop where
  pu : F.pu = true
  n : F.n = 2
  run : ∀ x many, RetV (F.run [.dat x, .dat (.int many)] []) (.dat (.bool (risingB many x)))
section
variable {Fs : Nat → Fn} {F : Fn} {os : List Opd} {r : Rho} {K : SV → Rho → Prop} {X : Nat → Rho → Prop} {x : D} {lo hi : Int}
theorem call_whole (h : WholeOk F) (ho : datsO os = some [x]) (k : K (.dat (.bool (x.isInt && !x.isBool))) r) : (doCall F os).wp r K X := call_ret (ds := [x]) h.pu h.n ho (h.run _) rfl k
theorem call_within (h : WithinOk F) (ho : datsO os = some [x, .int lo, .int hi]) (k : K (.dat (.bool (withinB x lo hi))) r) : (doCall F os).wp r K X := call_ret (ds := [x, .int lo, .int hi]) h.pu h.n ho (h.run _ _ _) rfl k
theorem call_rising (h : RisingOk F) (ho : datsO os = some [x, .int hi]) (k : K (.dat (.bool (risingB hi x))) r) : (doCall F os).wp r K X := call_ret (ds := [x, .int hi]) h.pu h.n ho (h.run _ _) rfl k
end
local macro_rules | `(tactic| fail "w") => `(tactic| first
  | with_reducible refine wSs_cons ?_ | with_reducible refine wSs_nil ?_ | with_reducible refine wS_asg ?_ | with_reducible refine wS_ret ?_ | with_reducible refine wS_ite ?_ | with_reducible refine wS_ex ?_ | with_reducible refine wS_unp ?_ | with_reducible refine wS_for ?_
  | with_reducible refine wS_raise ?_ | with_reducible refine wS_retN ?_ | with_reducible refine wS_par ?_ | with_reducible refine wS_pass ?_ | with_reducible refine wS_tryC ?_
  | with_reducible refine wE_k ?_ | ((with_reducible apply wE_nm); exact rfl) | ((with_reducible apply wE_fz); exact rfl) | with_reducible refine wE_op ?_ | with_reducible refine wE_glob ?_ | with_reducible refine wE_call ?_ | with_reducible refine wE_tup ?_ | with_reducible refine wE_lst ?_
  | with_reducible refine wE_chain ?_ | with_reducible refine wE_and ?_ | with_reducible refine wE_or ?_ | with_reducible refine wE_not ?_ | with_reducible refine wE_ife ?_ | with_reducible refine wE_asI ?_
  | with_reducible refine wEs_nil ?_ | with_reducible refine wEs_cons ?_
  | with_reducible refine wT_op ?_ | with_reducible refine wT_lst ?_ | with_reducible refine wT_call ?_ | with_reducible refine wT_lc ?_ | with_reducible refine wT_lcIf ?_ | with_reducible refine wT_lc2 ?_ | ((with_reducible apply wT_of); exact rfl)
  | with_reducible refine wI_seq ?_ | with_reducible refine wI_rng ?_ | with_reducible refine wI_rng2 ?_ | with_reducible refine wI_zip2 ?_ | with_reducible refine wI_zip3 ?_)
set_option hygiene false in
local macro_rules | `(tactic| fail "x") => `(tactic| first | ((with_reducible apply exB); exact rfl) | ((with_reducible apply exO); exact rfl) | ((with_reducible apply exU); exact rfl) | ((with_reducible refine fun hk => ?_); cases hk) | with_reducible refine fun hk => ?_)
local macro_rules | `(tactic| fail "c") => `(tactic| first
  | ((with_reducible apply call_whole); assumption; exact rfl)
  | ((with_reducible apply call_within); assumption; exact rfl)
  | ((with_reducible apply call_rising); assumption; exact rfl))
local macro_rules | `(tactic| fail "go") => `(tactic| repeat' (first | fail "w" | fail "x" | fail "c"))
theorem whole_ok {Fs : Nat → Fn} : WholeOk ⟨true, 1, fnRun Fs 1 B_is_whole⟩ := by
  refine ⟨rfl, rfl, fun x => fnRun_go (sl := [some (.dat x)]) rfl ?_⟩
  unfold B_is_whole
  cases x <;> fail "go"
  all_goals rfl
theorem within_ok {Fs : Nat → Fn} {i : Nat} (h : WholeOk (Fs i)) : WithinOk ⟨true, 3, fnRun Fs 3 (B_is_within i)⟩ := by
  refine ⟨rfl, rfl, fun x lo hi => fnRun_go (sl := [some (.dat x), some (.dat (.int lo)), some (.dat (.int hi))]) rfl ?_⟩
  unfold B_is_within
  cases x <;> fail "go"
  all_goals first | rfl | skip
  all_goals simp_all [withinB, truth, PyData.truthy]
  omega
theorem drop_cons {α : Type} {xs : List α} {j : Nat} {x : α} (e : xs[j]? = some x) : xs.drop j = x :: xs.drop (j + 1) := by
  obtain ⟨h, rfl⟩ := List.getElem?_eq_some_iff.mp e
  exact List.drop_eq_getElem_cons h
theorem tup_cases (x : D) : (∃ xs, x = .tuple xs) ∨ isaD "tuple" x = false := by
  cases x <;> first | exact .inr rfl | exact .inl ⟨_, rfl⟩
theorem rising_ok {Fs : Nat → Fn} {i : Nat} (h : WithinOk (Fs i)) : RisingOk ⟨true, 2, fnRun Fs 4 (B_is_rising i)⟩ := by
  refine ⟨rfl, rfl, fun x many => fnRun_go (sl := [some (.dat x), some (.dat (.int many)), none, none]) rfl ?_⟩
  unfold B_is_rising
  cases x
  case tuple xs =>
    fail "go"
    refine ⟨fun j r => ∃ b o, Jk o ∧ r = ⟨[some (.dat (.tuple xs)), some (.dat (.int many)), some (.dat (.int b)), o], []⟩ ∧ risingL many (-1) xs = risingL many b (xs.drop j), ⟨-1, none, trivial, rfl, rfl⟩, ?_, ?_⟩
    · rintro j x _ e ⟨b, o, ho, rfl, h2⟩
      replace e : xs[j]? = some x := e
      refine ⟨_, wr_jk ho, ?_⟩
      rw [drop_cons e] at h2
      fail "go"
      · simp only [tb, Bool.not_eq_true'] at hk
        show SV.dat (.bool false) = .dat (.bool (risingL many (-1) xs))
        rw [h2]
        unfold risingL
        split
        · rw [hk]; rfl
        · rfl
      · simp only [tb, Bool.not_eq_false'] at hk
        cases x <;> try cases hk
        rename_i n
        refine ⟨n, _, jk_dat, rfl, ?_⟩
        rw [h2, risingL, hk, Bool.true_and]
    · rintro _ ⟨b, o, ho, rfl, h2⟩
      fail "go"
      show SV.dat (.bool true) = .dat (.bool (risingL many (-1) xs))
      rw [h2]
      dsimp only
      rw [List.drop_length]; rfl
  all_goals fail "go"
  all_goals rfl
/-! systems -/
/-- a whole number, or 0 -/
def toI : D → Int
  | .int i => i
  | _ => 0
def stateB (n : Nat) (c : Int) : D → Bool
  | .tuple [k, nx] => withinB k 0 (c - 1) && (risingB n nx && truth nx)
  | _ => false
def sysB : D → Bool
  | .tuple [c, st, .tuple ss] => withinB c 1 4 && (decide ((1 : Int) ≤ ss.length) && decide ((ss.length : Int) ≤ 8)) && (risingB ss.length st && truth st) && ss.all (stateB ss.length (toI c))
  | _ => false
structure SystemOk (F : Fn) : Prop where
  pu : F.pu = true
  n : F.n = 1
  run : ∀ x, RetV (F.run [.dat x] []) (.dat (.bool (sysB x)))
theorem call_system {F : Fn} {os : List Opd} {r : Rho} {K : SV → Rho → Prop} {X : Nat → Rho → Prop} {x : D} (h : SystemOk F) (ho : datsO os = some [x]) (k : K (.dat (.bool (sysB x))) r) : (doCall F os).wp r K X := call_ret (ds := [x]) h.pu h.n ho (h.run _) rfl k
theorem system_ok {Fs : Nat → Fn} {i j : Nat} {g0 g1 : Str} (hw : WithinOk (Fs i)) (hr : RisingOk (Fs j)) : SystemOk ⟨true, 1, fnRun Fs 5 (B_is_system i j g0 g1)⟩ := by
  refine ⟨rfl, rfl, fun x => fnRun_go (sl := [some (.dat x), none, none, none, none]) rfl ?_⟩
  unfold B_is_system
  cases x
  case tuple xs =>
    match xs with
    | [] => fail "go"; all_goals rfl
    | [a] => fail "go"; all_goals rfl
    | [a, b] => fail "go"; all_goals rfl
    | a :: b :: c :: d :: xs => fail "go"; all_goals simp [sysB]
    | [c, st, ss] =>
      cases ss
      case tuple ss =>
        fail "go"
        all_goals try (first | (simp_all [sysB, tb]; done) | (simp_all [sysB, tb]; intros; omega))
        rename_i h1 h2 h3
        simp only [tb, Bool.not_eq_false'] at h1 h2 h3 hk
        cases st <;> try cases hk
        rename_i st
        cases c <;> try cases h1
        rename_i c
        fail "go"
        · simp_all [sysB, tb]
        · refine ⟨fun j r => ∃ o, Jk o ∧ r = ⟨[some (.dat (.tuple [.int c, .tuple st, .tuple ss])), o, some (.dat (.int c)), some (.dat (.tuple st)), some (.dat (.tuple ss))], []⟩ ∧ sysB (.tuple [.int c, .tuple st, .tuple ss]) = (ss.drop j).all (stateB ss.length c), ⟨none, trivial, rfl, ?_⟩, ?_, ?_⟩
          · simp_all [sysB, tb, toI]
          · rintro j x _ e ⟨o, ho, rfl, h4⟩
            replace e : ss[j]? = some x := e
            refine ⟨_, wr_jk ho, ?_⟩
            rw [drop_cons e, List.all_cons] at h4
            rw [h4]
            clear h4
            cases x
            case tuple xs =>
              match xs with
              | [] => fail "go"; all_goals simp [stateB]
              | [a] => fail "go"; all_goals simp [stateB]
              | a :: b :: d :: xs => fail "go"; all_goals simp [stateB]
              | [k, nx] =>
                fail "go"
                all_goals try (simp_all [stateB, tb]; done)
                rename_i h5
                simp only [tb, Bool.not_eq_false'] at h5 hk
                cases nx <;> try cases hk
                rename_i nx
                fail "go"
                · simp_all [stateB, tb]
                · exact ⟨_, jk_dat, rfl, by simp_all [stateB, tb]⟩
            all_goals fail "go"
            all_goals simp [stateB]
          · rintro _ ⟨o, ho, rfl, h4⟩
            fail "go"
            rw [h4]
            dsimp only
            rw [List.drop_length]; rfl
      all_goals fail "go"
      all_goals first | rfl | simp_all [sysB, tb]
  all_goals fail "go"
  all_goals rfl
end Mp
set_option Elab.async false
set_option linter.all false
set_option maxRecDepth 100000
set_option maxHeartbeats 400000
/-! Lp2: systems as numbers, paths (plain Lean) -/
namespace Mp
open PySem
/-! comprehensions that add by a function -/
section
variable {r : Rho} {X : Nat → Rho → Prop}
theorem comp_map {Fs : Nat → Fn} {it : I} {own : List Nat} {t : Tg} {m : M (List D)} {KL : List D → Rho → Prop} (f : D → List D) (J : Rho → Prop)
    (h : wI Fs it r (fun p r1 => tgIn own t = true ∧ outOwn own p.2 = true ∧ J (lockO r1 p.2) ∧ (∀ x ∈ p.1, ∀ r2, J r2 → ∃ r3, asgT t x (wipe r2 own) = some r3 ∧ m.wp r3 (fun zs r4 => zs = f x ∧ J r4) fun _ _ => False) ∧ (p.1.flatMap f).length ≤ lim ∧ ∀ r2, J r2 → KL (p.1.flatMap f) (unlockO r1 (back r1 r2 own) p.2)) X) : (compM own t (evI Fs it) m).wp r KL X := by
  refine comp_wp (M.wp_mono h (fun p r1 ⟨h1, h2, h3, h4, h5, h6⟩ => ⟨h1, h2, fun i ys r2 => ys = (p.1.take i).flatMap f ∧ J r2, ⟨rfl, h3⟩, ?_, ?_⟩) fun _ _ x => x)
  · rintro i x ys r2 e ⟨rfl, hJ⟩
    obtain ⟨r3, e3, w⟩ := h4 x (List.mem_of_getElem? e) r2 hJ
    refine ⟨r3, e3, M.wp_mono w ?_ fun _ _ x => x⟩
    rintro zs r4 ⟨rfl, hJ4⟩
    refine ⟨?_, hJ4⟩
    rw [List.take_add_one, e]
    simp
  · rintro ys r2 ⟨rfl, hJ⟩
    rw [List.take_length]
    exact ⟨h5, h6 r2 hJ⟩
theorem elt2_map {Fs : Nat → Fn} {it : I} {own own2 : List Nat} {t2 : Tg} {m : M (List D)} {KL : List D → Rho → Prop} (f : D → List D) (J : Rho → Prop)
    (h : wI Fs it r (fun q r1 => q.2 = none ∧ tgIn own2 t2 = true ∧ own2.all own.contains = true ∧ J r1 ∧ (∀ x ∈ q.1, ∀ r2, J r2 → ∃ r3, asgT t2 x (wipe r2 own2) = some r3 ∧ m.wp r3 (fun zs r4 => zs = f x ∧ J r4) fun _ _ => False) ∧ ∀ r2, J r2 → KL (q.1.flatMap f) r2) X) : (elt2 own own2 t2 (evI Fs it) m).wp r KL X := by
  refine elt2_wp (M.wp_mono h (fun p r1 ⟨h1, h2, h3, h4, h5, h6⟩ => ⟨h1, h2, h3, fun i ys r2 => ys = (p.1.take i).flatMap f ∧ J r2, ⟨rfl, h4⟩, ?_, ?_⟩) fun _ _ x => x)
  · rintro i x ys r2 e ⟨rfl, hJ⟩
    obtain ⟨r3, e3, w⟩ := h5 x (List.mem_of_getElem? e) r2 hJ
    refine ⟨r3, e3, M.wp_mono w ?_ fun _ _ x => x⟩
    rintro zs r4 ⟨rfl, hJ4⟩
    refine ⟨?_, hJ4⟩
    rw [List.take_add_one, e]
    simp
  · rintro ys r2 ⟨rfl, hJ⟩
    rw [List.take_length]
    exact h6 r2 hJ
end
/-! places -/
theorem atD_nat {xs : List D} {i : Nat} {x : D} (e : xs[i]? = some x) : atD xs (i : Int) = some x := by
  have h := (List.getElem?_eq_some_iff.mp e).1
  unfold atD L2.atI L2.ixN
  rw [if_pos (Int.natCast_nonneg i), if_pos (by omega)]
  simpa using e
theorem atD_int {xs : List D} {j : Int} {i : Nat} {x : D} (hj : j = i) (e : xs[i]? = some x) : atD xs j = some x := by subst hj; exact atD_nat e
theorem op_idxT {xs : List D} {i : Int} {x : D} {r : Rho} (e : atD xs i = some x) : opFin .idx [.d (.tuple xs), .d (.int i)] r = some (.d x) := by
  unfold opFin; simp [resAll, Opd.res, opF, f_idx, e]
theorem op_idxL {xs : List D} {i : Int} {x : D} {r : Rho} (e : atD xs i = some x) : opFin .idx [.d (.list xs), .d (.int i)] r = some (.d x) := by
  unfold opFin; simp [resAll, Opd.res, opF, f_idx, e]
theorem op_nin {x y : D} {b : Bool} {r : Rho} (e : inD x y = some b) : opFin .nin [.d x, .d y] r = some (.d (.bool (!b))) := by
  unfold opFin; simp [resAll, Opd.res, opF, f_nin, e]
theorem op_isin {x y : D} {b : Bool} {r : Rho} (e : inD x y = some b) : opFin .isin [.d x, .d y] r = some (.d (.bool b)) := by
  unfold opFin; simp [resAll, Opd.res, opF, f_isin, e]
theorem rngD_at {lo hi : Int} {j : Nat} {x : D} (e : (rngD lo hi)[j]? = some x) : x = .int (lo + j) ∧ (j : Int) < hi - lo := by
  unfold rngD at e
  rw [List.getElem?_map] at e
  obtain ⟨k, h1, h2⟩ := Option.map_eq_some_iff.mp e
  obtain ⟨h3, h4⟩ := List.getElem?_eq_some_iff.mp h1
  rw [List.getElem_range] at h4
  rw [List.length_range] at h3
  subst h4
  exact ⟨h2.symm, by omega⟩
theorem rngD_lenN {lo hi : Int} : (rngD lo hi).length = (hi - lo).toNat := by unfold rngD; simp
theorem op_rng2 {i j : Int} {r : Rho} (h : mid i = true) (h2 : mid j = true) : rng2Fin (.d (.int i)) (.d (.int j)) r = some (rngD i j, none) := by
  unfold rng2Fin; simp [resAll, Opd.res, h, h2]
theorem op_rng {i : Int} {r : Rho} (h : mid i = true) : rngFin (.d (.int i)) r = some (rngD 0 i, none) := by
  unfold rngFin; simp [Opd.res, h]
theorem mid1 : mid 1 = true := by unfold mid; decide
theorem mid_of {i : Int} (h : 0 ≤ i) (h2 : i ≤ 1000000) : mid i = true := by
  unfold mid
  simp only [Bool.and_eq_true, decide_eq_true_eq]
  have e : (2 : Int) ^ 62 = 4611686018427387904 := by decide
  rw [e]
  omega
/-! tuples of numbers -/
def nT (xs : List Nat) : D := .tuple (xs.map fun (n : Nat) => .int (n : Int))
def memN (l : List Nat) (x : Int) : Bool := l.any fun n => decide ((n : Int) = x)
theorem plainN {α : Type} {f : α → Int} : ∀ (l : List α), PyData.plainAll (l.map fun n => .int (f n)) = true
  | [] => rfl
  | a :: l => by
    have := plainN (f := f) l
    simpa [PyData.plainAll, PyData.plain] using this
theorem eqvI {a b : Int} : PyData.eqv (.int a) (.int b) = decide (a = b) := by
  show (a == b) = _
  rfl
theorem inN {l : List Nat} {x : Int} : inD (.int x) (nT l) = some (memN l x) := by
  unfold inD nT
  dsimp only
  rw [plainN l]
  rw [if_pos (by simp [PyData.plain, PyData.depth])]
  simp [memN, List.any_map, Function.comp_def, eqvI]
/-- a system -/
structure Sy where
  c : Nat
  st : List Nat
  ss : List (Nat × List Nat)
def stD (p : Nat × List Nat) : D := .tuple [.int p.1, nT p.2]
def Sy.enc (s : Sy) : D := .tuple [.int s.c, nT s.st, .tuple (s.ss.map stD)]
def Sy.nx (s : Sy) (i : Nat) : List Nat := (s.ss.getD i (0, [])).2
def Rise (n : Nat) (xs : List Nat) : Prop := xs ≠ [] ∧ xs.Pairwise (· < ·) ∧ ∀ x ∈ xs, x < n
structure Sy.Ok (s : Sy) : Prop where
  c1 : 1 ≤ s.c
  c4 : s.c ≤ 4
  l1 : 1 ≤ s.ss.length
  l8 : s.ss.length ≤ 8
  st : Rise s.ss.length s.st
  ss : ∀ p ∈ s.ss, p.1 < s.c ∧ Rise s.ss.length p.2
theorem rise_L {n : Nat} : ∀ (xs : List Nat) (b : Int), xs.Pairwise (· < ·) → (∀ x ∈ xs, x < n) → (∀ x ∈ xs, b < (x : Int)) → risingL n b (xs.map fun (n : Nat) => PyData.int (n : Int)) = true
  | [], _, _, _, _ => rfl
  | x :: xs, b, h1, h2, h3 => by
    have h4 := List.pairwise_cons.mp h1
    have := rise_L xs x h4.2 (fun y hy => h2 y (List.mem_cons_of_mem _ hy)) fun y hy => by have := h4.1 y hy; omega
    have e1 := h2 x (List.mem_cons_self)
    have e2 := h3 x (List.mem_cons_self)
    unfold risingL List.map
    dsimp only
    rw [this]
    simp [withinB]
    omega
theorem rise_B {n : Nat} {xs : List Nat} (h : Rise n xs) : risingB n (nT xs) = true := rise_L xs (-1) h.2.1 h.2.2 fun x _ => by omega
theorem truth_nT {xs : List Nat} (h : xs ≠ []) : truth (nT xs) = true := by
  cases xs
  · exact absurd rfl h
  · rfl
theorem Sy.Ok.sys {s : Sy} (h : s.Ok) : sysB s.enc = true := by
  show (withinB (.int s.c) 1 4 && (decide ((1 : Int) ≤ (s.ss.map stD).length) && decide (((s.ss.map stD).length : Int) ≤ 8)) && (risingB (s.ss.map stD).length (nT s.st) && truth (nT s.st)) && (s.ss.map stD).all (stateB (s.ss.map stD).length (toI (.int s.c)))) = true
  have h1 := h.c1; have h2 := h.c4; have h3 := h.l1; have h4 := h.l8
  have e5 : risingB ((s.ss.map stD).length : Nat) (nT s.st) = true := by rw [List.length_map]; exact rise_B h.st
  rw [e5, truth_nT h.st.1]
  have e6 : (s.ss.map stD).all (stateB (s.ss.map stD).length (toI (.int s.c))) = true := by
    rw [List.all_eq_true]
    intro x hx
    obtain ⟨p, hp, rfl⟩ := List.mem_map.mp hx
    obtain ⟨k1, k2⟩ := h.ss p hp
    rw [List.length_map]
    show (withinB (.int p.1) 0 ((s.c : Int) - 1) && (risingB s.ss.length (nT p.2) && truth (nT p.2))) = true
    rw [rise_B k2, truth_nT k2.1]
    simp [withinB, toI]
    omega
  rw [e6]
  simp [withinB]
  omega
theorem Sy.nx_at {s : Sy} {i : Nat} (h : i < s.ss.length) : ∃ p, s.ss[i]? = some p ∧ s.nx i = p.2 := by
  refine ⟨s.ss[i], List.getElem?_eq_getElem h, ?_⟩
  unfold Sy.nx
  simp [List.getD_eq_getElem?_getD, List.getElem?_eq_getElem h]
theorem Sy.Ok.rise {s : Sy} (h : s.Ok) {i : Nat} (hi : i < s.ss.length) : Rise s.ss.length (s.nx i) := by
  obtain ⟨p, e, e2⟩ := s.nx_at hi
  rw [e2]
  exact (h.ss p (List.mem_of_getElem? e)).2
/-! check_system -/
structure CheckSOk (F : Fn) : Prop where
  pu : F.pu = true
  n : F.n = 1
  ok : ∀ x, sysB x = true → RetV (F.run [.dat x] []) (.dat .none)
  bad : ∀ x, sysB x = false → Exc (F.run [.dat x] []) 1
local macro_rules | `(tactic| fail "w") => `(tactic| first
  | with_reducible refine wSs_cons ?_ | with_reducible refine wSs_nil ?_ | with_reducible refine wS_asg ?_ | with_reducible refine wS_ret ?_ | with_reducible refine wS_ite ?_ | with_reducible refine wS_ex ?_ | with_reducible refine wS_unp ?_ | with_reducible refine wS_for ?_
  | with_reducible refine wS_raise ?_ | with_reducible refine wS_retN ?_ | with_reducible refine wS_par ?_ | with_reducible refine wS_pass ?_ | with_reducible refine wS_tryC ?_
  | with_reducible refine wE_k ?_ | ((with_reducible apply wE_nm); exact rfl) | ((with_reducible apply wE_fz); exact rfl) | with_reducible refine wE_op ?_ | with_reducible refine wE_glob ?_ | with_reducible refine wE_call ?_ | with_reducible refine wE_tup ?_ | with_reducible refine wE_lst ?_
  | with_reducible refine wE_chain ?_ | with_reducible refine wE_and ?_ | with_reducible refine wE_or ?_ | with_reducible refine wE_not ?_ | with_reducible refine wE_ife ?_ | with_reducible refine wE_asI ?_
  | with_reducible refine wEs_nil ?_ | with_reducible refine wEs_cons ?_
  | with_reducible refine wT_op ?_ | with_reducible refine wT_lst ?_ | with_reducible refine wT_call ?_ | with_reducible refine wT_lc ?_ | with_reducible refine wT_lcIf ?_ | with_reducible refine wT_lc2 ?_ | ((with_reducible apply wT_of); exact rfl)
  | with_reducible refine wI_seq ?_ | with_reducible refine wI_rng ?_ | with_reducible refine wI_rng2 ?_ | with_reducible refine wI_zip2 ?_ | with_reducible refine wI_zip3 ?_)
set_option hygiene false in
local macro_rules | `(tactic| fail "x") => `(tactic| first | ((with_reducible apply exB); exact rfl) | ((with_reducible apply exO); exact rfl) | ((with_reducible apply exU); exact rfl) | ((with_reducible refine fun hk => ?_); cases hk) | with_reducible refine fun hk => ?_)
local macro_rules | `(tactic| fail "c") => `(tactic| first
  | ((with_reducible apply call_whole); assumption; exact rfl)
  | ((with_reducible apply call_within); assumption; exact rfl)
  | ((with_reducible apply call_rising); assumption; exact rfl)
  | ((with_reducible apply call_system); assumption; exact rfl))
local macro_rules | `(tactic| fail "go") => `(tactic| repeat' (first | fail "w" | fail "x" | fail "c"))
theorem check_system_ok {Fs : Nat → Fn} {i : Nat} (h : SystemOk (Fs i)) : CheckSOk ⟨true, 1, fnRun Fs 1 (B_check_system i)⟩ := by
  refine ⟨rfl, rfl, fun x hx => fnRun_go (sl := [some (.dat x)]) rfl ?_, fun x hx => fnRun_go (sl := [some (.dat x)]) rfl ?_⟩
  · unfold B_check_system
    fail "go"
    · rw [hx] at hk; cases hk
    · rfl
  · unfold B_check_system
    fail "go"
    · rfl
    · rw [hx] at hk; cases hk
/-- is this tuple a path -/
def chainB (s : Sy) (xs : List D) (k : Nat) : Bool := memN (s.nx (toI (xs.getD k .none)).toNat) (toI (xs.getD (k + 1) .none))
def pathB (s : Sy) : D → Bool
  | .tuple xs => !xs.isEmpty && xs.all (fun x => withinB x 0 (s.ss.length - 1)) && memN s.st (toI (xs.headD .none)) && (List.range (xs.length - 1)).all (chainB s xs)
  | _ => false
def shortT (n : Nat) : D → Prop
  | .tuple xs => xs.length ≤ n
  | _ => True
structure PathOfOk (F : Fn) : Prop where
  pu : F.pu = true
  n : F.n = 2
  run : ∀ (s : Sy) (x : D), s.Ok → shortT 1000 x → RetV (F.run [.dat s.enc, .dat x] []) (.dat (.bool (pathB s x)))
theorem path_of_ok {Fs : Nat → Fn} {i : Nat} (hw : WithinOk (Fs i)) : PathOfOk ⟨true, 2, fnRun Fs 4 (B_is_path_of i)⟩ := by
  refine ⟨rfl, rfl, fun s x hs hx => fnRun_go (sl := [some (.dat s.enc), some (.dat x), none, none]) rfl ?_⟩
  unfold B_is_path_of
  cases x
  case tuple xs =>
    cases xs with
    | nil => fail "go"; all_goals rfl
    | cons x0 xs0 =>
    generalize hxs : x0 :: xs0 = xs
    have hx0 : xs.headD .none = x0 := by subst hxs; rfl
    have hl : 0 < xs.length := by subst hxs; simp
    have ht : truth (.tuple xs) = true := by subst hxs; rfl
    fail "go"
    · rw [ht] at hk; cases hk
    · refine ⟨fun j r => ∃ o, Jk o ∧ r = ⟨[some (.dat s.enc), some (.dat (.tuple xs)), o, none], []⟩ ∧ xs.all (fun x => withinB x 0 (s.ss.length - 1)) = (xs.drop j).all (fun x => withinB x 0 (s.ss.length - 1)), ⟨none, trivial, rfl, rfl⟩, ?_, ?_⟩
      · rintro j x _ e ⟨o, ho, rfl, h4⟩
        replace e : xs[j]? = some x := e
        refine ⟨_, wr_jk ho, ?_⟩
        rw [drop_cons e, List.all_cons] at h4
        fail "go"
        · simp only [tb, Bool.not_eq_true', List.length_map] at hk
          rw [hk, Bool.false_and] at h4
          show SV.dat (.bool false) = .dat (.bool (_ && _ && _ && _))
          rw [h4]; simp
        · simp only [tb, Bool.not_eq_false', List.length_map] at hk
          refine ⟨_, jk_dat, rfl, ?_⟩
          rw [h4, hk, Bool.true_and]
      · rintro _ ⟨o, ho, rfl, h4⟩
        dsimp only at h4
        rw [List.drop_length, List.all_nil] at h4
        have hal : ∀ (k : Nat) (x : D), xs[k]? = some x → ∃ n : Nat, x = .int n ∧ n < s.ss.length := by
          intro k x e
          have h5 := List.all_eq_true.mp h4 x (List.mem_of_getElem? e)
          unfold withinB at h5
          split at h5
          · next i =>
            simp only [Bool.and_eq_true, decide_eq_true_eq] at h5
            obtain ⟨n, rfl⟩ := Int.eq_ofNat_of_zero_le h5.1
            exact ⟨n, rfl, by omega⟩
          · cases h5
        have e0 : xs[0]? = some x0 := by subst hxs; rfl
        obtain ⟨n0, rfl, hn0⟩ := hal 0 _ e0
        have hP : pathB s (.tuple xs) = (memN s.st n0 && (List.range (xs.length - 1)).all (chainB s xs)) := by
          show (_ && _ && _ && _) = _
          rw [h4, hx0]
          have : xs.isEmpty = false := by subst hxs; rfl
          rw [this]; rfl
        rw [hP]
        fail "go"
        refine exO (op_idxT (atD_int (i := 0) rfl e0)) ?_
        fail "go"
        refine exO (op_nin inN) ?_


        fail "go"
        · simp only [tb, Bool.not_eq_true'] at hk
          rw [hk]; rfl
        · simp only [tb, Bool.not_eq_false'] at hk
          rw [hk]
          have hle : xs.length ≤ 1000 := by subst hxs; exact hx
          refine exO (op_rng2 mid1 (mid_of (by omega) (by omega))) ?_
          refine ⟨fun j r => ∃ o, Jk o ∧ (∃ o2, r = ⟨[some (.dat s.enc), some (.dat (.tuple xs)), o2, o], []⟩) ∧ ∀ k, k < j → chainB s xs k = true, ⟨none, trivial, ⟨_, rfl⟩, fun k hk => absurd hk (Nat.not_lt_zero _)⟩, ?_, ?_⟩
          · rintro j x _ e ⟨o, ho, ⟨o2, rfl⟩, h5⟩
            obtain ⟨rfl, hj⟩ := rngD_at e
            obtain ⟨n1, e1, hn1⟩ := hal j _ (List.getElem?_eq_getElem (l := xs) (by omega))
            obtain ⟨n2, e2, hn2⟩ := hal (j + 1) _ (List.getElem?_eq_getElem (l := xs) (by omega))
            have e1' : xs[j]? = some (.int n1) := by rw [← e1]; exact List.getElem?_eq_getElem _
            have e2' : xs[j + 1]? = some (.int n2) := by rw [← e2]; exact List.getElem?_eq_getElem _
            obtain ⟨p, ep, enx⟩ := s.nx_at hn1
            refine ⟨_, wr_jk ho, ?_⟩
            fail "go"
            refine exO (op_idxT (atD_int (i := j + 1) (by omega) e2')) ?_
            fail "go"
            refine exO (op_idxT (atD_int (i := j) (by omega) e1')) ?_
            fail "go"
            refine exO (op_idxT (atD_nat (x := stD p) (by simp [ep]))) ?_
            fail "go"
            refine exO (op_nin inN) ?_
            have hc : chainB s xs j = memN p.2 n2 := by
              unfold chainB
              rw [List.getD_eq_getElem?_getD, List.getD_eq_getElem?_getD, e1', e2']
              show memN (s.nx (Int.toNat n1)) n2 = _
              rw [Int.toNat_natCast, enx]
            fail "go"
            · simp only [tb, Bool.not_eq_true'] at hk
              have : (List.range (xs.length - 1)).all (chainB s xs) = false := by
                rw [List.all_eq_false]
                exact ⟨j, List.mem_range.mpr (by omega), by rw [hc, hk]; decide⟩
              rw [this]; rfl
            · simp only [tb, Bool.not_eq_false'] at hk
              refine ⟨_, jk_dat, ⟨_, rfl⟩, fun k h6 => ?_⟩
              rcases Nat.lt_succ_iff_lt_or_eq.mp h6 with h7 | rfl
              · exact h5 k h7
              · rw [hc, hk]
          · rintro _ ⟨o, ho, ⟨o2, rfl⟩, h5⟩
            rw [rngD_lenN] at h5
            fail "go"
            have : (List.range (xs.length - 1)).all (chainB s xs) = true := by
              rw [List.all_eq_true]
              exact fun k h6 => h5 k (by have := List.mem_range.mp h6; omega)
            rw [this]; rfl
  all_goals fail "go"
  all_goals rfl
end Mp
set_option Elab.async false
set_option linter.all false
set_option maxRecDepth 100000
set_option maxHeartbeats 400000
/-! Lp3: paths (plain Lean) -/
namespace Mp
open PySem
theorem call_checkSy {F : Fn} {os : List Opd} {r : Rho} {K : SV → Rho → Prop} {X : Nat → Rho → Prop} {s : Sy} (h : CheckSOk F) (ho : datsO os = some [s.enc]) (hs : s.Ok) (k : K (.dat .none) r) : (doCall F os).wp r K X := call_ret (ds := [s.enc]) h.pu h.n ho (h.ok _ hs.sys) rfl k
theorem call_checkSbad {F : Fn} {os : List Opd} {r : Rho} {K : SV → Rho → Prop} {X : Nat → Rho → Prop} {x : D} (h : CheckSOk F) (ho : datsO os = some [x]) (hs : sysB x = false) (k : X 1 r) : (doCall F os).wp r K X := call_exc (ds := [x]) h.pu h.n ho (h.bad _ hs) k
theorem call_path_of {F : Fn} {os : List Opd} {r : Rho} {K : SV → Rho → Prop} {X : Nat → Rho → Prop} {s : Sy} {x : D} (h : PathOfOk F) (ho : datsO os = some [s.enc, x]) (hs : s.Ok) (hx : shortT 1000 x) (k : K (.dat (.bool (pathB s x))) r) : (doCall F os).wp r K X := call_ret (ds := [s.enc, x]) h.pu h.n ho (h.run _ _ hs hx) rfl k
/-! all paths -/
def lastN (p : List Nat) : Nat := p.getLastD 0
def grow (s : Sy) (l : List (List Nat)) : List (List Nat) := l.flatMap fun p => (s.nx (lastN p)).map fun t => p ++ [t]
def pathsN (s : Sy) : Nat → List (List Nat)
  | 0 => s.st.map fun a => [a]
  | k + 1 => grow s (pathsN s k)
theorem rise_len {n : Nat} : ∀ (xs : List Nat) (b : Nat), xs.Pairwise (· < ·) → (∀ x ∈ xs, b ≤ x ∧ x < n) → xs.length ≤ n - b
  | [], _, _, _ => Nat.zero_le _
  | x :: xs, b, h1, h2 => by
    have h4 := List.pairwise_cons.mp h1
    have := rise_len xs (x + 1) h4.2 fun y hy => ⟨h4.1 y hy, (h2 y (List.mem_cons_of_mem _ hy)).2⟩
    have e := h2 x (List.mem_cons_self)
    rw [List.length_cons]
    omega
theorem Rise.len {n : Nat} {xs : List Nat} (h : Rise n xs) : xs.length ≤ n := rise_len xs 0 h.2.1 fun x hx => ⟨Nat.zero_le _, h.2.2 x hx⟩
/-- paths within a system's states, of a length -/
def In (n k : Nat) (l : List (List Nat)) : Prop := ∀ p ∈ l, p.length = k ∧ ∀ x ∈ p, x < n
theorem last_lt {n : Nat} {p : List Nat} (hp : p ≠ []) (h : ∀ x ∈ p, x < n) : lastN p < n := by
  unfold lastN
  rw [List.getLastD_eq_getLast?, List.getLast?_eq_some_getLast hp]
  exact h _ (List.getLast_mem hp)
theorem pathsN_in {s : Sy} (h : s.Ok) : ∀ k, In s.ss.length (k + 1) (pathsN s k)
  | 0 => by
    intro p hp
    obtain ⟨a, ha, rfl⟩ := List.mem_map.mp hp
    exact ⟨rfl, fun x hx => by rw [List.mem_singleton.mp hx]; exact h.st.2.2 a ha⟩
  | k + 1 => by
    intro p hp
    obtain ⟨q, hq, h2⟩ := List.mem_flatMap.mp hp
    obtain ⟨t, ht, rfl⟩ := List.mem_map.mp h2
    obtain ⟨h3, h4⟩ := pathsN_in h k q hq
    have hq0 : q ≠ [] := by intro e; rw [e] at h3; cases h3
    refine ⟨by rw [List.length_append, h3]; rfl, fun x hx => ?_⟩
    rcases List.mem_append.mp hx with h5 | h5
    · exact h4 x h5
    · rw [List.mem_singleton.mp h5]
      exact (h.rise (last_lt hq0 h4)).2.2 t ht
theorem flat_len {α β : Type} {f : α → List β} {m : Nat} : ∀ (l : List α), (∀ a ∈ l, (f a).length ≤ m) → (l.flatMap f).length ≤ l.length * m
  | [], _ => by simp
  | a :: l, h => by
    have h1 := h a (List.mem_cons_self)
    have h2 := flat_len l fun b hb => h b (List.mem_cons_of_mem _ hb)
    rw [List.flatMap_cons, List.length_append, List.length_cons, Nat.add_one_mul]
    omega
theorem grow_len {s : Sy} (h : s.Ok) {k : Nat} {l : List (List Nat)} (hl : In s.ss.length (k + 1) l) : (grow s l).length ≤ l.length * s.ss.length := by
  refine flat_len l fun p hp => ?_
  obtain ⟨h3, h4⟩ := hl p hp
  have hq0 : p ≠ [] := by intro e; rw [e] at h3; cases h3
  rw [List.length_map]
  exact (h.rise (last_lt hq0 h4)).len
theorem pathsN_len {s : Sy} (h : s.Ok) : ∀ k, (pathsN s k).length ≤ s.ss.length ^ (k + 1)
  | 0 => by
    show (s.st.map fun a => [a]).length ≤ _
    rw [List.length_map, Nat.zero_add, Nat.pow_one]
    exact h.st.len
  | k + 1 => by
    have h1 := grow_len h (pathsN_in h k)
    have h2 := pathsN_len h k
    have h3 := Nat.mul_le_mul_right s.ss.length h2
    rw [Nat.pow_succ]
    exact Nat.le_trans h1 h3
theorem pathsN_lim {s : Sy} (h : s.Ok) {k : Nat} (hk : k ≤ 7) : (pathsN s k).length ≤ lim := by
  have h1 := pathsN_len h k
  have h2 : s.ss.length ^ (k + 1) ≤ 8 ^ (k + 1) := Nat.pow_le_pow_left h.l8 _
  have h3 : 8 ^ (k + 1) ≤ 8 ^ 8 := Nat.pow_le_pow_right (by decide) (by omega)
  have h4 : 8 ^ 8 = lim := by decide
  omega
/-! the reading of a tuple of numbers -/
def toN : D → List Nat
  | .tuple xs => xs.map fun x => (toI x).toNat
  | _ => []
theorem toN_nT (xs : List Nat) : toN (nT xs) = xs := by
  unfold toN nT
  simp [List.map_map, Function.comp_def, toI]
theorem atD_last {xs : List D} {x : D} (e : xs.getLast? = some x) : atD xs (-1) = some x := by
  have hx : xs ≠ [] := by intro h; rw [h] at e; cases e
  have hl : 0 < xs.length := List.length_pos_iff.mpr hx
  unfold atD L2.atI L2.ixN
  rw [if_neg (by omega), if_pos (by omega)]
  rw [List.getLast?_eq_getElem?] at e
  show xs[((-1 : Int) + xs.length).toNat]? = some x
  rw [← e]
  congr 1
  omega
theorem last_nT {p : List Nat} (h : p ≠ []) : (p.map fun (n : Nat) => PyData.int (n : Int)).getLast? = some (.int (lastN p)) := by
  rw [List.getLast?_map, List.getLast?_eq_some_getLast h]
  unfold lastN
  rw [List.getLastD_eq_getLast?, List.getLast?_eq_some_getLast h]
  rfl
def growF (s : Sy) (x : D) : List D := (s.nx (lastN (toN x))).map fun t => nT (toN x ++ [t])
theorem growF_map {s : Sy} {l : List (List Nat)} : (l.map nT).flatMap (growF s) = (grow s l).map nT := by
  unfold grow growF
  rw [List.flatMap_map, List.map_flatMap]
  congr 1
  funext p
  rw [toN_nT, List.map_map]
  rfl
theorem szT {xs : List D} (h : xs.length ≤ lim) : szTup xs = some (.tuple xs) := by unfold szTup; rw [if_pos h]
theorem op_addT {xs ys : List D} {r : Rho} (h : (xs ++ ys).length ≤ lim) : opFin .add [.d (.tuple xs), .d (.tuple ys)] r = some (.d (.tuple (xs ++ ys))) := by
  unfold opFin; simp only [resAll, Opd.res, opF, f_add, szT h]; rfl
theorem add_nT {p : List Nat} {t : Nat} {r : Rho} (h : p.length ≤ 1000) : opFin .add [.d (nT p), .d (.tuple [.int t])] r = some (.d (nT (p ++ [t]))) := by
  unfold nT
  rw [op_addT (by simp; unfold lim; omega), List.map_append]
  rfl
structure IsPathOk (F : Fn) : Prop where
  pu : F.pu = true
  n : F.n = 2
  run : ∀ (s : Sy) (x : D), s.Ok → shortT 1000 x → RetV (F.run [.dat s.enc, .dat x] []) (.dat (.bool (pathB s x)))
  bad : ∀ (d : D) (x : D), sysB d = false → Exc (F.run [.dat d, .dat x] []) 1
structure PathsOk (F : Fn) : Prop where
  pu : F.pu = true
  n : F.n = 2
  run : ∀ (s : Sy) (k : Nat), s.Ok → k ≤ 7 → (pathsN s k).length ≤ 5000 → RetV (F.run [.dat s.enc, .dat (.int (k + 1 : Nat))] []) (.own (.list ((pathsN s k).map nT)))
  much : ∀ (s : Sy) (k : Nat), s.Ok → k ≤ 7 → 5000 < (pathsN s k).length → Exc (F.run [.dat s.enc, .dat (.int (k + 1 : Nat))] []) 5
  bad : ∀ (d x : D), sysB d = false → Exc (F.run [.dat d, .dat x] []) 1
local macro_rules | `(tactic| fail "w") => `(tactic| first
  | with_reducible refine wSs_cons ?_ | with_reducible refine wSs_nil ?_ | with_reducible refine wS_asg ?_ | with_reducible refine wS_ret ?_ | with_reducible refine wS_ite ?_ | with_reducible refine wS_ex ?_ | with_reducible refine wS_unp ?_ | with_reducible refine wS_for ?_
  | with_reducible refine wS_raise ?_ | with_reducible refine wS_retN ?_ | with_reducible refine wS_par ?_ | with_reducible refine wS_pass ?_ | with_reducible refine wS_tryC ?_
  | with_reducible refine wE_k ?_ | ((with_reducible apply wE_nm); exact rfl) | ((with_reducible apply wE_fz); exact rfl) | with_reducible refine wE_op ?_ | with_reducible refine wE_glob ?_ | with_reducible refine wE_call ?_ | with_reducible refine wE_tup ?_ | with_reducible refine wE_lst ?_
  | with_reducible refine wE_chain ?_ | with_reducible refine wE_and ?_ | with_reducible refine wE_or ?_ | with_reducible refine wE_not ?_ | with_reducible refine wE_ife ?_ | with_reducible refine wE_asI ?_
  | with_reducible refine wEs_nil ?_ | with_reducible refine wEs_cons ?_
  | with_reducible refine wT_op ?_ | with_reducible refine wT_lst ?_ | with_reducible refine wT_call ?_ | with_reducible refine wT_lc ?_ | with_reducible refine wT_lcIf ?_ | with_reducible refine wT_lc2 ?_ | ((with_reducible apply wT_of); exact rfl)
  | with_reducible refine wI_seq ?_ | with_reducible refine wI_rng ?_ | with_reducible refine wI_rng2 ?_ | with_reducible refine wI_zip2 ?_ | with_reducible refine wI_zip3 ?_)
set_option hygiene false in
local macro_rules | `(tactic| fail "x") => `(tactic| first | ((with_reducible apply exB); exact rfl) | ((with_reducible apply exO); exact rfl) | ((with_reducible apply exU); exact rfl) | ((with_reducible refine fun hk => ?_); cases hk) | with_reducible refine fun hk => ?_)
local macro_rules | `(tactic| fail "c") => `(tactic| first
  | ((with_reducible apply call_whole); assumption; exact rfl)
  | ((with_reducible apply call_within); assumption; exact rfl)
  | ((with_reducible apply call_rising); assumption; exact rfl)
  | ((with_reducible apply call_system); assumption; exact rfl)
  | ((with_reducible apply call_checkSy); assumption; exact rfl; assumption))
local macro_rules | `(tactic| fail "go") => `(tactic| repeat' (first | fail "w" | fail "x" | fail "c"))
theorem is_path_ok {Fs : Nat → Fn} {i j : Nat} (hc : CheckSOk (Fs i)) (hp : PathOfOk (Fs j)) : IsPathOk ⟨true, 2, fnRun Fs 2 (B_is_path i j)⟩ := by
  refine ⟨rfl, rfl, fun s x hs hx => fnRun_go (sl := [some (.dat s.enc), some (.dat x)]) rfl ?_, fun d x hs => fnRun_go (sl := [some (.dat d), some (.dat x)]) rfl ?_⟩
  · unfold B_is_path
    fail "go"
    exact call_path_of hp rfl hs hx rfl
  · unfold B_is_path
    fail "go"
    exact call_checkSbad hc rfl hs rfl
theorem paths_core {Fs : Nat → Fn} {i : Nat} {g0 : Str} (hc : CheckSOk (Fs i)) {s : Sy} {k : Nat} (hs : s.Ok) (hk : k ≤ 7) {KR : SV → List GE → Prop} {X : Nat → List GE → Prop} (h1 : (pathsN s k).length ≤ 5000 → KR (.own (.list ((pathsN s k).map nT))) []) (h2 : 5000 < (pathsN s k).length → X 5 []) : CR.at KR X (fnRun Fs 7 (B_paths i g0) [.dat s.enc, .dat (.int (k + 1 : Nat))] []) := by
  refine fnRun_go (sl := [some (.dat s.enc), some (.dat (.int (k + 1 : Nat))), none, none, none, none, none]) rfl ?_
  unfold B_paths
  fail "go"
  refine comp_map (fun x => [.tuple [x]]) (fun r => ∃ o, Jk o ∧ r = ⟨[some (.dat s.enc), some (.dat (.int (k + 1 : Nat))), none, none, o, none, none], []⟩) ?_
  fail "go"
  refine ⟨rfl, rfl, ⟨none, trivial, rfl⟩, ?_, ?_, ?_⟩
  · rintro x _ _ ⟨o, ho, rfl⟩
    refine ⟨_, rfl, elt1_wp ?_⟩
    fail "go"
    exact ⟨rfl, _, jk_dat, rfl⟩
  · show ((s.st.map fun (n : Nat) => PyData.int (n : Int)).flatMap fun x => [PyData.tuple [x]]).length ≤ lim
    have := hs.st.len
    have := hs.l8
    have := flat_len (f := fun x => [PyData.tuple [x]]) (m := 1) (s.st.map fun (n : Nat) => PyData.int (n : Int)) fun _ _ => Nat.le_refl 1
    rw [List.length_map] at this
    unfold lim
    omega
  · rintro _ ⟨o, ho, rfl⟩
    have e : ((s.st.map fun (n : Nat) => PyData.int (n : Int)).flatMap fun x => [PyData.tuple [x]]) = (pathsN s 0).map nT := by
      unfold pathsN
      rw [List.flatMap_map, List.map_map]
      induction s.st with
      | nil => rfl
      | cons a l ih => rw [List.flatMap_cons, ih, List.map_cons]; rfl
    dsimp only
    rw [e]
    refine ⟨_, rfl, ?_⟩
    fail "go"
    refine exO (op_rng (mid_of (by omega) (by omega))) ?_
    refine ⟨fun j r => ∃ o, Jk o ∧ r = ⟨[some (.dat s.enc), some (.dat (.int (k + 1 : Nat))), some (.own (.list ((pathsN s j).map nT))), o, none, none, none], []⟩, ⟨none, trivial, rfl⟩, ?_, ?_⟩
    · rintro j x _ e ⟨o, ho, rfl⟩
      obtain ⟨rfl, hj⟩ := rngD_at e
      have hj7 : j + 1 ≤ 7 := by omega
      refine ⟨_, wr_jk ho, ?_⟩
      fail "go"
      refine comp_map (growF s) (fun r => ∃ o5 o6, r = ⟨[some (.dat s.enc), some (.dat (.int (k + 1 : Nat))), some (.lck (.list ((pathsN s j).map nT))), some (.dat (.int (0 + j))), none, o5, o6], []⟩) ?_
      fail "go"
      refine ⟨rfl, rfl, ⟨none, none, rfl⟩, ?_, ?_, ?_⟩
      · rintro x hx _ ⟨o5, o6, rfl⟩
        obtain ⟨p, hp, rfl⟩ := List.mem_map.mp hx
        obtain ⟨h3, h4⟩ := pathsN_in hs j p hp
        have hp0 : p ≠ [] := by intro e; rw [e] at h3; cases h3
        obtain ⟨q, eq, enx⟩ := s.nx_at (last_lt hp0 h4)
        refine ⟨_, rfl, elt2_map (fun t => [nT (p ++ [(toI t).toNat])]) (fun r => ∃ o6, r = ⟨[some (.dat s.enc), some (.dat (.int (k + 1 : Nat))), some (.lck (.list ((pathsN s j).map nT))), some (.dat (.int (0 + j))), none, some (.dat (nT p)), o6], []⟩) ?_⟩
        fail "go"
        refine exO (op_idxT (atD_last (last_nT hp0))) ?_
        fail "go"
        refine exO (op_idxT (atD_nat (x := stD q) (by simp [eq]))) ?_
        fail "go"
        refine ⟨rfl, rfl, rfl, ⟨none, rfl⟩, ?_, ?_⟩
        · rintro x hx _ ⟨o6, rfl⟩
          obtain ⟨t, ht, rfl⟩ := List.mem_map.mp hx
          refine ⟨_, rfl, elt1_wp ?_⟩
          fail "go"
          refine exO (add_nT (by omega)) ?_
          fail "go"
          exact ⟨rfl, _, rfl⟩
        · rintro _ ⟨o6, rfl⟩
          refine ⟨?_, _, _, rfl⟩
          show (q.2.map fun (n : Nat) => PyData.int (n : Int)).flatMap (fun t => [nT (p ++ [(toI t).toNat])]) = _
          unfold growF
          rw [toN_nT, enx]
          induction q.2 with
          | nil => rfl
          | cons a l ih => rw [List.map_cons, List.flatMap_cons, ih, List.map_cons]; rfl
      · show (((pathsN s j).map nT).flatMap (growF s)).length ≤ lim
        rw [growF_map, List.length_map]
        exact pathsN_lim hs hj7
      · rintro _ ⟨o5, o6, rfl⟩
        dsimp only
        rw [growF_map]
        refine ⟨_, rfl, ?_⟩
        fail "go"
        exact ⟨_, jk_dat, rfl⟩
    · rintro _ ⟨o, ho, rfl⟩
      have e : (rngD 0 ((k + 1 : Nat) - 1)).length = k := by rw [rngD_lenN]; omega
      dsimp only
      rw [e]
      fail "go"
      · simp only [tb, decide_eq_true_eq, List.length_map] at hk
        exact h2 (by omega)
      · simp only [tb, decide_eq_false_iff_not, List.length_map] at hk
        exact wS_mvO rfl (h1 (by omega))
theorem paths_ok {Fs : Nat → Fn} {i : Nat} {g0 : Str} (hc : CheckSOk (Fs i)) : PathsOk ⟨true, 2, fnRun Fs 7 (B_paths i g0)⟩ := by
  refine ⟨rfl, rfl, fun s k hs hk h => paths_core hc hs hk (fun _ => rfl) (fun h2 => by omega), fun s k hs hk h => paths_core hc hs hk (fun h2 => by omega) fun _ => rfl, fun d x hs => fnRun_go (sl := [some (.dat d), some (.dat x), none, none, none, none, none]) rfl ?_⟩
  unfold B_paths
  fail "go"
  exact call_checkSbad hc rfl hs rfl
end Mp
set_option Elab.async false
set_option linter.all false
set_option maxRecDepth 100000
set_option maxHeartbeats 1000000
/-! Lp4: what the law draws from its script (plain Lean) -/
namespace Mp
open PySem
section
variable {Fs : Nat → Fn} {r : Rho} {N P : Rho → Prop} {R : SV → List GE → Prop} {Bk Ct : Rho → Prop} {X : Nat → Rho → Prop}
theorem wS_mono {N' : Rho → Prop} {s : S} (h : wS Fs s r P R Bk Ct X) (k : ∀ r1, P r1 → N' r1) : wS Fs s r N' R Bk Ct X :=
  Dn.at_mono h k (fun _ _ x => x) (fun _ x => x) (fun _ x => x) fun _ _ x => x
theorem wSs_cut {s : S} {ss : Ss} (P : Rho → Prop) (h : wS Fs s r P R Bk Ct X) (k : ∀ r1, P r1 → wSs Fs ss r1 N R Bk Ct X) : wSs Fs (.cons s ss) r N R Bk Ct X :=
  wSs_cons (wS_mono h k)
theorem wS_mutO {m : Mu} {i : Nat} {es : Es} (hi : guardM m i r = true) (h : wEs Fs es r (fun os r1 => ∃ r2, mutS m i os r1 = some (.nx r2) ∧ N r2) X) : wS Fs (.mut m i es) r N R Bk Ct X :=
  wS_mut hi (M.wp_mono h (fun os r1 ⟨r2, e, k⟩ => by rw [e]; exact k) fun _ _ x => x)
end
section
variable {r : Rho} {KT : SV → Prop} {N : Rho → Prop} {o : Op} {os : List Opd} {d d' : D} {ds : List D} {m : Mu} {i n : Nat}
theorem exVf (e : opFin o os r = some (.d d)) (c : (o.fresh && isCont d) = false) (k : KT (.dat d)) : ∃ v, opFinT o (opFin o os r) = some v ∧ KT v := ⟨.dat d, by rw [e]; unfold opFinT; dsimp only; rw [c]; rfl, k⟩
theorem exVo (e : opFin o os r = some (.d d)) (c : (o.fresh && isCont d) = true) (k : KT (.own d)) : ∃ v, opFinT o (opFin o os r) = some v ∧ KT v := ⟨.own d, by rw [e]; unfold opFinT; dsimp only; rw [c]; rfl, k⟩
theorem exMg (hd : m.deep = false) (ho : datsO os = some ds) (hs : r.at i = some (.gl n)) (hg : r.g[n]? = some (.lst d)) (hm : muF m d ds = some d') (k : N ⟨r.sl, r.g.set n (.lst d')⟩) : ∃ r2, mutS m i os r = some (.nx r2) ∧ N r2 := by
  refine ⟨_, ?_, k⟩
  unfold mutS Rho.getOwn
  rw [ho]; dsimp only; rw [hd, if_neg Bool.false_ne_true, hs]; dsimp only; rw [hg]; dsimp only; rw [hm]
  unfold Rho.putOwn
  rw [hs]; rfl
theorem exMo (hd : m.deep = false) (ho : datsO os = some ds) (hs : r.at i = some (.own d)) (hm : muF m d ds = some d') (k : N (r.set i (some (.own d')))) : ∃ r2, mutS m i os r = some (.nx r2) ∧ N r2 := by
  refine ⟨_, ?_, k⟩
  unfold mutS Rho.getOwn
  rw [ho]; dsimp only; rw [hd, if_neg Bool.false_ne_true, hs]; dsimp only; rw [hm]
  unfold Rho.putOwn
  rw [hs]; rfl
end
/-- the box -/
def Bx (g : List GE) : Prop := ∃ (x c a : Int) (cs : List Int), 0 ≤ a ∧ g = [.lst (.list [.int x, .int c, .int a, .list (cs.map .int)])]
theorem small_of {i : Int} (h : -1000000000000 ≤ i) (h2 : i ≤ 1000000000000) : small i = true := by
  unfold small
  simp only [Bool.and_eq_true, decide_eq_true_eq]
  have e : (2 : Int) ^ 64 = 18446744073709551616 := by decide
  rw [e]
  omega
theorem f_mulR {i j : Int} (h : small j = true) : f_mul [.int i, .int j] = some (.int (i * j)) := by
  unfold f_mul; simp [h]
theorem f_mulL {i j : Int} (h : small i = true) : f_mul [.int i, .int j] = some (.int (i * j)) := by
  unfold f_mul; simp [h]
theorem f_modI {i j : Int} (h : 0 < j) : f_mod [.int i, .int j] = some (.int (i % j)) := by
  unfold f_mod; simp [h]
theorem f_fdivI {i j : Int} (h : 0 < j) (h2 : j < 1073741824) : f_fdiv [.int i, .int j] = some (.int (i / j)) := by
  unfold f_fdiv; simp [h, h2]
/-- an operation's end, by the function on data -/
theorem op_of {o : Op} {os : List Opd} {ds : List D} {d : D} {r : Rho} (h : resAll r os = some (ds, false)) (e : opF o ds = some d) : opFin o os r = some (.d d) := by
  unfold opFin; rw [h]; dsimp only; rw [e]; rfl
structure TakeOk (F : Fn) : Prop where
  pu : F.pu = false
  n : F.n = 2
  run : ∀ g m, Bx g → 0 < m → m < 1073741824 → CR.at (fun v g' => (∃ n : Nat, v = .dat (.int n) ∧ (n : Int) < m) ∧ Bx g') (fun _ _ => False) (F.run [.gl 0, .dat (.int m)] g)
local macro_rules | `(tactic| fail "w") => `(tactic| first
  | with_reducible refine wSs_cons ?_ | with_reducible refine wSs_nil ?_ | with_reducible refine wS_asg ?_ | with_reducible refine wS_ret ?_ | with_reducible refine wS_ite ?_ | with_reducible refine wS_ex ?_ | with_reducible refine wS_unp ?_ | with_reducible refine wS_for ?_
  | ((with_reducible refine wS_mutO ?_ ?_); exact rfl) | ((with_reducible apply exMg); exact rfl; exact rfl; exact rfl; exact rfl; exact rfl) | ((with_reducible apply exMo); exact rfl; exact rfl; exact rfl; exact rfl)
  | with_reducible refine wS_raise ?_ | with_reducible refine wS_retN ?_ | with_reducible refine wS_par ?_ | with_reducible refine wS_pass ?_ | with_reducible refine wS_tryC ?_
  | with_reducible refine wE_k ?_ | ((with_reducible apply wE_nm); exact rfl) | ((with_reducible apply wE_fz); exact rfl) | with_reducible refine wE_op ?_ | with_reducible refine wE_glob ?_ | with_reducible refine wE_call ?_ | with_reducible refine wE_tup ?_ | with_reducible refine wE_lst ?_
  | with_reducible refine wE_chain ?_ | with_reducible refine wE_and ?_ | with_reducible refine wE_or ?_ | with_reducible refine wE_not ?_ | with_reducible refine wE_ife ?_ | with_reducible refine wE_asI ?_
  | with_reducible refine wEs_nil ?_ | with_reducible refine wEs_cons ?_
  | with_reducible refine wT_op ?_ | with_reducible refine wT_lst ?_ | with_reducible refine wT_call ?_ | with_reducible refine wT_lc ?_ | with_reducible refine wT_lcIf ?_ | with_reducible refine wT_lc2 ?_ | ((with_reducible apply wT_of); exact rfl)
  | with_reducible refine wI_seq ?_ | with_reducible refine wI_rng ?_ | with_reducible refine wI_rng2 ?_ | with_reducible refine wI_zip2 ?_ | with_reducible refine wI_zip3 ?_)
set_option hygiene false in
local macro_rules | `(tactic| fail "x") => `(tactic| first | ((with_reducible apply exB); exact rfl) | ((with_reducible apply exVf); exact rfl; exact rfl) | ((with_reducible apply exVo); exact rfl; exact rfl) | ((with_reducible apply exO); exact rfl) | ((with_reducible apply exU); exact rfl) | ((with_reducible refine fun hk => ?_); cases hk) | with_reducible refine fun hk => ?_)
local macro_rules | `(tactic| fail "c") => `(tactic| first
  | ((with_reducible apply call_whole); assumption; exact rfl)
  | ((with_reducible apply call_within); assumption; exact rfl)
  | ((with_reducible apply call_rising); assumption; exact rfl)
  | ((with_reducible apply call_system); assumption; exact rfl)
  | ((with_reducible apply call_checkSy); assumption; exact rfl; assumption))
local macro_rules | `(tactic| fail "go") => `(tactic| repeat' (first | fail "w" | fail "x" | fail "c"))
theorem modN {x m : Int} (hm : 0 < m) : ∃ n : Nat, SV.dat (.int (x % m)) = .dat (.int n) ∧ (n : Int) < m := by
  refine ⟨(x % m).toNat, ?_, ?_⟩
  · rw [Int.toNat_of_nonneg (Int.emod_nonneg _ (show m ≠ 0 by omega))]
  · rw [Int.toNat_of_nonneg (Int.emod_nonneg _ (show m ≠ 0 by omega))]
    exact Int.emod_lt_of_pos _ hm
theorem take_ok {Fs : Nat → Fn} : TakeOk ⟨false, 2, fnRun Fs 5 B_law_take⟩ := by
  refine ⟨rfl, rfl, fun g m hg hm hm2 => fnRun_go (sl := [some (.gl 0), some (.dat (.int m)), none, none, none]) rfl ?_⟩
  unfold B_law_take
  refine wSs_cut (fun r1 => ∃ o2 o3, (Jk o2 ∧ Jk o3) ∧ ∃ g', Bx g' ∧ r1 = ⟨[some (.gl 0), some (.dat (.int m)), o2, o3, none], g'⟩) ?_ ?_
  · obtain ⟨x, c, a, cs, ha, rfl⟩ := hg
    obtain ⟨n, rfl⟩ := Int.eq_ofNat_of_zero_le ha
    fail "go"
    · simp only [tb, decide_eq_true_eq, List.length_map] at hk
      have hn : n < cs.length := by omega
      refine exVf (op_idxL (atD_nat (x := .int cs[n]) (by simp [hn]))) rfl ?_
      fail "go"
      all_goals first
        | exact ⟨_, _, ⟨jk_dat, jk_dat⟩, _, ⟨_, _, _, cs, by omega, rfl⟩, rfl⟩
        | exact ⟨⟨0, rfl, hm⟩, _, _, _, cs, by omega, rfl⟩
    all_goals first
      | exact ⟨_, _, ⟨jk_dat, jk_dat⟩, _, ⟨_, _, _, cs, by omega, rfl⟩, rfl⟩
      | exact ⟨⟨0, rfl, hm⟩, _, _, _, cs, by omega, rfl⟩
      | exact ⟨_, _, ⟨jk_none, jk_none⟩, _, ⟨_, _, _, cs, by omega, rfl⟩, rfl⟩
  · rintro _ ⟨o2, o3, ⟨ho2, ho3⟩, _, ⟨x, c, a, cs, ha, rfl⟩, rfl⟩
    have h20 : (0 : Int) < 2147483647 := by decide
    fail "go"
    · refine exVf (op_of rfl (f_modI hm)) rfl ?_
      fail "go"
      refine exO (op_of rfl (f_fdivI hm hm2)) ?_
      fail "go"
      all_goals exact wS_mvD rfl ⟨modN hm, _, _, _, cs, ha, rfl⟩
    · refine exO (op_of rfl (f_mulR (small_of (by omega) (by omega)))) ?_
      fail "go"
      refine exO (op_of rfl (f_mulL (small_of (by omega) (by omega)))) ?_
      fail "go"
      refine exVf (op_of rfl (f_modI hm)) rfl ?_
      exact ⟨modN hm, _, _, _, cs, ha, rfl⟩
/-- drawing: a call that changes the box alone -/
theorem call_box {F : Fn} {os : List Opd} {r : Rho} {K : SV → Rho → Prop} {X : Nat → Rho → Prop} {vs : List SV} {P : SV → Prop} (hp : F.pu = false) (hn : F.n = vs.length) (ho : argsSV r os = some (vs, false)) (h : CR.at (fun v g' => P v ∧ Bx g') (fun _ _ => False) (F.run vs r.g)) (hv : ∀ v, P v → v.ret = true) (k : ∀ v g', P v → Bx g' → K v ⟨r.sl, g'⟩) : (doCall F os).wp r K X := by
  obtain ⟨v, g', e, h1, h2⟩ := CR.at_ret h
  unfold M.wp doCall
  rw [ho]
  dsimp only
  rw [if_neg (by simp [hn]), hp, if_neg Bool.false_ne_true, if_neg Bool.false_ne_true, e]
  dsimp only
  rw [hv v h1, if_pos rfl]
  exact k v g' h1 h2
theorem call_take {F : Fn} {os : List Opd} {r : Rho} {K : SV → Rho → Prop} {X : Nat → Rho → Prop} {m : Int} (h : TakeOk F) (ho : argsSV r os = some ([.gl 0, .dat (.int m)], false)) (hb : Bx r.g) (hm : 0 < m ∧ m < 1073741824) (k : ∀ (n : Nat) g', (n : Int) < m → Bx g' → K (.dat (.int n)) ⟨r.sl, g'⟩) : (doCall F os).wp r K X := by
  refine call_box (vs := [.gl 0, .dat (.int m)]) h.pu h.n ho (h.run _ _ hb hm.1 hm.2) ?_ ?_
  · rintro _ ⟨n, rfl, _⟩; rfl
  · rintro _ g' ⟨n, rfl, hn⟩ hg; exact k n g' hn hg
structure PickOk (F : Fn) : Prop where
  pu : F.pu = false
  n : F.n = 2
  run : ∀ g xs, Bx g → 0 < xs.length → xs.length < 1000000 → CR.at (fun v g' => (∃ x ∈ xs, v = .dat x) ∧ Bx g') (fun _ _ => False) (F.run [.gl 0, .dat (.list xs)] g)
  runT : ∀ g xs, Bx g → 0 < xs.length → xs.length < 1000000 → CR.at (fun v g' => (∃ x ∈ xs, v = .dat x) ∧ Bx g') (fun _ _ => False) (F.run [.gl 0, .dat (.tuple xs)] g)
theorem pick_ok {Fs : Nat → Fn} {i : Nat} (h : TakeOk (Fs i)) : PickOk ⟨false, 2, fnRun Fs 2 (B_law_pick i)⟩ := by
  refine ⟨rfl, rfl, fun g xs hg h1 h2 => fnRun_go (sl := [some (.gl 0), some (.dat (.list xs))]) rfl ?_, fun g xs hg h1 h2 => fnRun_go (sl := [some (.gl 0), some (.dat (.tuple xs))]) rfl ?_⟩
  · unfold B_law_pick
    fail "go"
    refine call_take h rfl hg ⟨by omega, by omega⟩ fun n g' hn hg' => ?_
    fail "go"
    have hl : n < xs.length := by omega
    exact exVf (op_idxL (atD_nat (List.getElem?_eq_getElem hl))) rfl ⟨⟨_, List.getElem_mem hl, rfl⟩, hg'⟩
  · unfold B_law_pick
    fail "go"
    refine call_take h rfl hg ⟨by omega, by omega⟩ fun n g' hn hg' => ?_
    fail "go"
    have hl : n < xs.length := by omega
    exact exVf (op_idxT (atD_nat (List.getElem?_eq_getElem hl))) rfl ⟨⟨_, List.getElem_mem hl, rfl⟩, hg'⟩
theorem call_pick {F : Fn} {os : List Opd} {r : Rho} {K : SV → Rho → Prop} {X : Nat → Rho → Prop} {xs : List D} (h : PickOk F) (ho : argsSV r os = some ([.gl 0, .dat (.list xs)], false)) (hb : Bx r.g) (hm : 0 < xs.length ∧ xs.length < 1000000) (k : ∀ x g', x ∈ xs → Bx g' → K (.dat x) ⟨r.sl, g'⟩) : (doCall F os).wp r K X := by
  refine call_box (vs := [.gl 0, .dat (.list xs)]) h.pu h.n ho (h.run _ _ hb hm.1 hm.2) ?_ ?_
  · rintro _ ⟨n, _, rfl⟩; rfl
  · rintro _ g' ⟨n, hn, rfl⟩ hg; exact k n g' hn hg
theorem call_pickT {F : Fn} {os : List Opd} {r : Rho} {K : SV → Rho → Prop} {X : Nat → Rho → Prop} {xs : List D} (h : PickOk F) (ho : argsSV r os = some ([.gl 0, .dat (.tuple xs)], false)) (hb : Bx r.g) (hm : 0 < xs.length ∧ xs.length < 1000000) (k : ∀ x g', x ∈ xs → Bx g' → K (.dat x) ⟨r.sl, g'⟩) : (doCall F os).wp r K X := by
  refine call_box (vs := [.gl 0, .dat (.tuple xs)]) h.pu h.n ho (h.runT _ _ hb hm.1 hm.2) ?_ ?_
  · rintro _ ⟨n, _, rfl⟩; rfl
  · rintro _ g' ⟨n, hn, rfl⟩ hg; exact k n g' hn hg
end Mp
set_option Elab.async false
set_option linter.all false
set_option maxRecDepth 100000
set_option maxHeartbeats 1000000
/-! Lp5: subsets, systems, paths that are drawn (plain Lean) -/
namespace Mp
open PySem
theorem comp_wpI {Fs : Nat → Fn} {it : I} {r : Rho} {X : Nat → Rho → Prop} {own : List Nat} {t : Tg} {m : M (List Mp.D)} {KL : List Mp.D → Rho → Prop}
    (h : wI Fs it r (fun p r1 => tgIn own t = true ∧ outOwn own p.2 = true ∧ ∃ Inv : Nat → List Mp.D → Rho → Prop, Inv 0 [] (lockO r1 p.2) ∧ Turns own t m p.1 Inv ∧ ∀ ys r2, Inv p.1.length ys r2 → ys.length ≤ lim ∧ KL ys (unlockO r1 (back r1 r2 own) p.2)) X) : (compM own t (evI Fs it) m).wp r KL X := comp_wp h
theorem inNL {l : List Nat} {x : Int} : inD (.int x) (.list (l.map fun (n : Nat) => PyData.int (n : Int))) = some (memN l x) := by
  unfold inD
  dsimp only
  rw [plainN l]
  rw [if_pos (by simp [PyData.plain, PyData.depth])]
  simp [memN, List.any_map, Function.comp_def, eqvI]
theorem memN_iff {l : List Nat} {n : Nat} : memN l n = true ↔ n ∈ l := by
  unfold memN
  rw [List.any_eq_true]
  constructor
  · rintro ⟨x, h1, h2⟩
    have : x = n := by have := of_decide_eq_true h2; omega
    subst this; exact h1
  · intro h
    exact ⟨n, h, by simp⟩
theorem memN_false {l : List Nat} {n : Nat} : memN l n = false ↔ n ∉ l := by
  rw [← memN_iff]; simp
theorem mu_app {xs : List D} {v : D} (h : xs.length < lim) : muF .app (.list xs) [v] = some (.list (xs ++ [v])) := by
  show (if xs.length < lim then some (PyData.list (xs ++ [v])) else none) = _
  rw [if_pos h]
theorem sort_int (l : List Nat) : f_srt [.list (l.map fun (n : Nat) => PyData.int (n : Int))] = some (.list ((l.mergeSort fun a b => decide (a ≤ b)).map fun (n : Nat) => PyData.int (n : Int))) := by
  have h1 : alikeB (l.map fun (n : Nat) => PyData.int (n : Int)) = true := by
    unfold alikeB
    simp [W.alike]
  have h2 : sortB (l.map fun (n : Nat) => PyData.int (n : Int)) = true := by
    unfold sortB
    simp
  have h3 : shallow (l.map fun (n : Nat) => PyData.int (n : Int)) = true := by
    unfold shallow
    simp [PyData.depth]
  unfold f_srt
  dsimp only
  rw [h1, h2, h3, if_pos (by decide)]
  unfold sortD
  rw [List.map_mergeSort]
  intro a _ b _
  simp [W.dataLe, W.sortLe, PyProof.Rows.listOrd, PyProof.Rows.itemOrd, PyProof.Rows.lexLt, W.keyToks, PyProof.Rows.itemLt]
  by_cases h : a ≤ b
  · rw [decide_eq_true h, decide_eq_false (by omega)]; rfl
  · rw [decide_eq_false h, decide_eq_true (by omega)]; rfl
theorem sort_rise {n : Nat} {l : List Nat} (h0 : l ≠ []) (hd : l.Nodup) (hn : ∀ x ∈ l, x < n) : Rise n (l.mergeSort fun a b => decide (a ≤ b)) := by
  have hp := List.mergeSort_perm l fun a b => decide (a ≤ b)
  refine ⟨fun e => h0 ?_, ?_, fun x hx => hn x (hp.mem_iff.mp hx)⟩
  · have := hp.length_eq
    rw [e] at this
    exact List.length_eq_zero_iff.mp this.symm
  · have h1 := List.pairwise_mergeSort (le := fun (a b : Nat) => decide (a ≤ b)) (by intro a b c; simp; omega) (by intro a b; simp; omega) l
    have h2 : (l.mergeSort fun a b => decide (a ≤ b)).Nodup := hp.nodup_iff.mpr hd
    refine (List.pairwise_and_iff.mpr ⟨h1, h2⟩).imp ?_
    intro a b ⟨h3, h4⟩
    have := of_decide_eq_true h3
    omega
structure SubsetOk (F : Fn) : Prop where
  pu : F.pu = false
  n : F.n = 2
  run : ∀ g (m : Nat), Bx g → 0 < m → m < 1000000 → CR.at (fun v g' => (∃ l : List Nat, v = .dat (nT l) ∧ Rise m l) ∧ Bx g') (fun _ _ => False) (F.run [.gl 0, .dat (.int m)] g)
theorem call_subset {F : Fn} {os : List Opd} {r : Rho} {K : SV → Rho → Prop} {X : Nat → Rho → Prop} {m : Nat} (h : SubsetOk F) (ho : argsSV r os = some ([.gl 0, .dat (.int m)], false)) (hb : Bx r.g) (hm : 0 < m ∧ m < 1000000) (k : ∀ (l : List Nat) g', Rise m l → Bx g' → K (.dat (nT l)) ⟨r.sl, g'⟩) : (doCall F os).wp r K X := by
  refine call_box (vs := [.gl 0, .dat (.int m)]) h.pu h.n ho (h.run _ _ hb hm.1 hm.2) ?_ ?_
  · rintro _ ⟨n, rfl, _⟩; rfl
  · rintro _ g' ⟨n, rfl, hn⟩ hg; exact k n g' hn hg
structure SystemOfOk (F : Fn) : Prop where
  pu : F.pu = false
  n : F.n = 3
  run : ∀ g (c m : Nat), Bx g → 1 ≤ c → c ≤ 4 → 1 ≤ m → m ≤ 8 → CR.at (fun v g' => (∃ s : Sy, v = .dat s.enc ∧ s.Ok ∧ s.c = c ∧ s.ss.length ≤ m) ∧ Bx g') (fun _ _ => False) (F.run [.gl 0, .dat (.int c), .dat (.int m)] g)
theorem call_systemOf {F : Fn} {os : List Opd} {r : Rho} {K : SV → Rho → Prop} {X : Nat → Rho → Prop} {c m : Nat} (h : SystemOfOk F) (ho : argsSV r os = some ([.gl 0, .dat (.int c), .dat (.int m)], false)) (hb : Bx r.g) (hm : 1 ≤ c ∧ c ≤ 4 ∧ 1 ≤ m ∧ m ≤ 8) (k : ∀ (s : Sy) g', s.Ok → s.c = c → s.ss.length ≤ m → Bx g' → K (.dat s.enc) ⟨r.sl, g'⟩) : (doCall F os).wp r K X := by
  refine call_box (vs := [.gl 0, .dat (.int c), .dat (.int m)]) h.pu h.n ho (h.run _ _ _ hb hm.1 hm.2.1 hm.2.2.1 hm.2.2.2) ?_ ?_
  · rintro _ ⟨n, rfl, _⟩; rfl
  · rintro _ g' ⟨n, rfl, h1, h2, h3⟩ hg; exact k n g' h1 h2 h3 hg
/-- a path of numbers -/
structure PathS (s : Sy) (p : List Nat) : Prop where
  ne : p ≠ []
  st : p.getD 0 0 ∈ s.st
  go : ∀ k, k + 1 < p.length → p.getD (k + 1) 0 ∈ s.nx (p.getD k 0)
theorem PathS.lt {s : Sy} (hs : s.Ok) {p : List Nat} (h : PathS s p) : ∀ k, k < p.length → p.getD k 0 < s.ss.length
  | 0, _ => hs.st.2.2 _ h.st
  | k + 1, hk => (hs.rise (PathS.lt hs h k (by omega))).2.2 _ (h.go k hk)
theorem getD_nT {p : List Nat} {k : Nat} (h : k < p.length) : (p.map fun (n : Nat) => PyData.int (n : Int))[k]? = some (.int (p.getD k 0 : Nat)) := by
  rw [List.getElem?_map, List.getElem?_eq_getElem h, List.getD_eq_getElem?_getD, List.getElem?_eq_getElem h]
  rfl
theorem PathS.path {s : Sy} (hs : s.Ok) {p : List Nat} (h : PathS s p) : pathB s (nT p) = true := by
  have hl : 0 < p.length := List.length_pos_iff.mpr h.ne
  have h1 : (p.map fun (n : Nat) => PyData.int (n : Int)).isEmpty = false := by
    cases p with
    | nil => exact absurd rfl h.ne
    | cons a l => rfl
  have h2 : (p.map fun (n : Nat) => PyData.int (n : Int)).all (fun x => withinB x 0 (s.ss.length - 1)) = true := by
    rw [List.all_eq_true]
    intro x hx
    obtain ⟨n, hn, rfl⟩ := List.mem_map.mp hx
    obtain ⟨k, hk, e⟩ := List.mem_iff_getElem.mp hn
    have := PathS.lt hs h k hk
    rw [List.getD_eq_getElem?_getD, List.getElem?_eq_getElem hk, Option.getD_some, e] at this
    simp [withinB]
    omega
  have h3 : toI ((p.map fun (n : Nat) => PyData.int (n : Int)).headD .none) = (p.getD 0 0 : Nat) := by
    cases p with
    | nil => exact absurd rfl h.ne
    | cons a l => rfl
  show (_ && _ && _ && _) = true
  rw [h1, h2, h3, memN_iff.mpr h.st]
  rw [List.length_map, Bool.not_false, Bool.true_and, Bool.true_and, Bool.true_and, List.all_eq_true]
  intro k hk
  have hk' := List.mem_range.mp hk
  unfold chainB
  rw [List.getD_eq_getElem?_getD, List.getD_eq_getElem?_getD, getD_nT (by omega), getD_nT (by omega)]
  exact memN_iff.mpr (h.go k (by omega))
theorem st_at {s : Sy} {i : Nat} {q : Nat × List Nat} (e : s.ss[i]? = some q) : (s.ss.map stD)[i]? = some (stD q) := by rw [List.getElem?_map, e]; rfl
theorem getD_l {p q : List Nat} {k : Nat} (h : k < p.length) : (p ++ q).getD k 0 = p.getD k 0 := by
  rw [List.getD_eq_getElem?_getD, List.getD_eq_getElem?_getD, List.getElem?_append_left h]
theorem getD_r {p : List Nat} {b k : Nat} (h : k = p.length) : (p ++ [b]).getD k 0 = b := by
  subst h
  rw [List.getD_eq_getElem?_getD, List.getElem?_append_right (Nat.le_refl _), Nat.sub_self]
  rfl
structure PathOkL (F : Fn) : Prop where
  pu : F.pu = false
  n : F.n = 3
  run : ∀ g (s : Sy) (m : Nat), Bx g → s.Ok → 1 ≤ m → m ≤ 1000 → CR.at (fun v g' => (∃ p : List Nat, v = .dat (nT p) ∧ PathS s p ∧ p.length = m) ∧ Bx g') (fun _ _ => False) (F.run [.gl 0, .dat s.enc, .dat (.int m)] g)
theorem call_path {F : Fn} {os : List Opd} {r : Rho} {K : SV → Rho → Prop} {X : Nat → Rho → Prop} {s : Sy} {m : Nat} (h : PathOkL F) (ho : argsSV r os = some ([.gl 0, .dat s.enc, .dat (.int m)], false)) (hb : Bx r.g) (hm : s.Ok ∧ 1 ≤ m ∧ m ≤ 1000) (k : ∀ (p : List Nat) g', PathS s p → p.length = m → Bx g' → K (.dat (nT p)) ⟨r.sl, g'⟩) : (doCall F os).wp r K X := by
  refine call_box (vs := [.gl 0, .dat s.enc, .dat (.int m)]) h.pu h.n ho (h.run _ _ _ hb hm.1 hm.2.1 hm.2.2) ?_ ?_
  · rintro _ ⟨n, rfl, _⟩; rfl
  · rintro _ g' ⟨n, rfl, h1, h2⟩ hg; exact k n g' h1 h2 hg
local macro_rules | `(tactic| fail "w") => `(tactic| first
  | with_reducible refine wSs_cons ?_ | with_reducible refine wSs_nil ?_ | with_reducible refine wS_asg ?_ | with_reducible refine wS_ret ?_ | with_reducible refine wS_ite ?_ | with_reducible refine wS_ex ?_ | with_reducible refine wS_unp ?_ | with_reducible refine wS_for ?_
  | ((with_reducible refine wS_mutO ?_ ?_); exact rfl) | ((with_reducible apply exMg); exact rfl; exact rfl; exact rfl; exact rfl; exact rfl) | ((with_reducible apply exMo); exact rfl; exact rfl; exact rfl; exact rfl)
  | with_reducible refine wS_raise ?_ | with_reducible refine wS_retN ?_ | with_reducible refine wS_par ?_ | with_reducible refine wS_pass ?_ | with_reducible refine wS_tryC ?_
  | with_reducible refine wE_k ?_ | ((with_reducible apply wE_nm); exact rfl) | ((with_reducible apply wE_fz); exact rfl) | with_reducible refine wE_op ?_ | with_reducible refine wE_glob ?_ | with_reducible refine wE_call ?_ | with_reducible refine wE_tup ?_ | with_reducible refine wE_lst ?_
  | with_reducible refine wE_chain ?_ | with_reducible refine wE_and ?_ | with_reducible refine wE_or ?_ | with_reducible refine wE_not ?_ | with_reducible refine wE_ife ?_ | with_reducible refine wE_asI ?_
  | with_reducible refine wEs_nil ?_ | with_reducible refine wEs_cons ?_
  | with_reducible refine wT_op ?_ | with_reducible refine wT_lst ?_ | with_reducible refine wT_call ?_ | with_reducible refine wT_lc ?_ | with_reducible refine wT_lcIf ?_ | with_reducible refine wT_lc2 ?_ | ((with_reducible apply wT_of); exact rfl)
  | with_reducible refine wI_seq ?_ | with_reducible refine wI_rng ?_ | with_reducible refine wI_rng2 ?_ | with_reducible refine wI_zip2 ?_ | with_reducible refine wI_zip3 ?_)
set_option hygiene false in
local macro_rules | `(tactic| fail "x") => `(tactic| first | ((with_reducible apply exB); exact rfl) | ((with_reducible apply exVf); exact rfl; exact rfl) | ((with_reducible apply exVo); exact rfl; exact rfl) | ((with_reducible apply exO); exact rfl) | ((with_reducible apply exU); exact rfl) | ((with_reducible refine fun hk => ?_); cases hk) | with_reducible refine fun hk => ?_)
local macro_rules | `(tactic| fail "c") => `(tactic| first
  | ((with_reducible apply call_whole); assumption; exact rfl)
  | ((with_reducible apply call_within); assumption; exact rfl)
  | ((with_reducible apply call_rising); assumption; exact rfl)
  | ((with_reducible apply call_system); assumption; exact rfl)
  | ((with_reducible apply call_checkSy); assumption; exact rfl; assumption))
local macro_rules | `(tactic| fail "go") => `(tactic| repeat' (first | fail "w" | fail "x" | fail "c"))
theorem subset_ok {Fs : Nat → Fn} {i j : Nat} (hp : PickOk (Fs i)) (ht : TakeOk (Fs j)) : SubsetOk ⟨false, 2, fnRun Fs 5 (B_law_subset i j)⟩ := by
  refine ⟨rfl, rfl, fun g m hg hm hm2 => fnRun_go (sl := [some (.gl 0), some (.dat (.int m)), none, none, none]) rfl ?_⟩
  unfold B_law_subset
  fail "go"
  refine call_pick hp rfl hg ⟨by decide, by decide⟩ ?_
  intro x g1 hx hg1
  obtain ⟨c, rfl, hc1, hc3⟩ : ∃ c : Int, x = .int c ∧ 1 ≤ c ∧ c ≤ 3 := by
    simp only [List.mem_cons, List.mem_nil_iff, or_false] at hx
    rcases hx with rfl | rfl | rfl | rfl | rfl | rfl <;> exact ⟨_, rfl, by decide, by decide⟩
  fail "go"
  refine exO (op_rng (mid_of (by omega) (by omega))) ?_
  refine ⟨fun j r => ∃ (l : List Nat) (o3 o4 : Option SV) (g : List GE), (l.length ≤ j ∧ (0 < j → l ≠ []) ∧ l.Nodup ∧ (∀ x ∈ l, x < m) ∧ Jk o3 ∧ Jk o4 ∧ Bx g) ∧ r = ⟨[some (.gl 0), some (.dat (.int m)), some (.own (.list (l.map fun (n : Nat) => PyData.int (n : Int)))), o3, o4], g⟩, ⟨[], none, none, _, ⟨by simp, by simp, by simp, by simp, jk_none, jk_none, hg1⟩, rfl⟩, ?_, ?_⟩
  · rintro j x _ e ⟨l, o3, o4, g2, ⟨h1, h2, h3, h4, h5, h6, h7⟩, rfl⟩
    obtain ⟨rfl, hj⟩ := rngD_at e
    refine ⟨_, wr_jk h5, ?_⟩
    fail "go"
    refine call_take ht rfl h7 ⟨by omega, by omega⟩ fun n g3 hn hg3 => ?_
    refine ⟨_, wr_jk (by exact h6), ?_⟩
    fail "go"
    refine exO (op_of rfl (by show (inD _ _).map _ = _; rw [inNL]; rfl)) ?_
    fail "go"
    · refine exMo rfl rfl rfl (mu_app (by rw [List.length_map]; unfold lim; omega)) ?_
      fail "go"
      simp only [tb, Bool.not_eq_true'] at hk
      have hn' := memN_false.mp hk
      refine ⟨l ++ [n], _, _, _, ⟨by simp; omega, by simp, ?_, ?_, jk_dat, jk_dat, hg3⟩, by rw [List.map_append]; rfl⟩
      · rw [List.nodup_append]
        exact ⟨h3, by simp, by intro a ha b hb; rw [List.mem_singleton.mp hb]; intro e; exact hn' (e ▸ ha)⟩
      · intro x hx
        rcases List.mem_append.mp hx with h | h
        · exact h4 x h
        · rw [List.mem_singleton.mp h]; omega
    · simp only [tb, Bool.not_eq_false'] at hk
      have hn' := memN_iff.mp hk
      have hl : l ≠ [] := by intro e; rw [e] at hn'; cases hn'
      exact ⟨l, _, _, _, ⟨Nat.le_succ_of_le h1, fun _ => hl, h3, h4, jk_dat, jk_dat, hg3⟩, rfl⟩
  · rintro _ ⟨l, o3, o4, g2, ⟨h1, h2, h3, h4, h5, h6, h7⟩, rfl⟩
    rw [rngD_lenN] at h2
    fail "go"
    refine exO (op_of rfl (sort_int l)) ?_
    fail "go"
    exact ⟨⟨_, rfl, sort_rise (h2 (by omega)) h3 h4⟩, h7⟩
theorem systemOf_ok {Fs : Nat → Fn} {i j : Nat} (ht : TakeOk (Fs i)) (hu : SubsetOk (Fs j)) : SystemOfOk ⟨false, 3, fnRun Fs 6 (B_law_system i j)⟩ := by
  refine ⟨rfl, rfl, fun g c m hg hc hc4 hm hm8 => fnRun_go (sl := [some (.gl 0), some (.dat (.int c)), some (.dat (.int m)), none, none, none]) rfl ?_⟩
  unfold B_law_system
  fail "go"
  refine call_take ht rfl hg ⟨by omega, by omega⟩ fun n g1 hn hg1 => ?_
  fail "go"
  refine wE_lc (comp_wpI ?_)
  fail "go"
  refine exO (op_rng (mid_of (by omega) (by omega))) ?_
  refine ⟨rfl, rfl, fun i ys r => ∃ (l : List (Nat × List Nat)) (o5 : Option SV) (g : List GE), (l.length = i ∧ (∀ p ∈ l, p.1 < c ∧ Rise (1 + n) p.2) ∧ Jk o5 ∧ Bx g) ∧ ys = l.map stD ∧ r = ⟨[some (.gl 0), some (.dat (.int c)), some (.dat (.int m)), some (.dat (.int (1 + n))), none, o5], g⟩, ⟨[], none, _, ⟨rfl, by simp, jk_none, hg1⟩, rfl, rfl⟩, ?_, ?_⟩
  · rintro i x ys _ e ⟨l, o5, g2, ⟨h1, h2, h3, h4⟩, rfl, rfl⟩
    obtain ⟨rfl, hj⟩ := rngD_at e
    refine ⟨_, rfl, elt1_wp ?_⟩
    fail "go"
    refine call_take ht rfl h4 ⟨by omega, by omega⟩ fun k g3 hk hg3 => ?_
    fail "go"
    refine call_subset (m := 1 + n) hu rfl hg3 ⟨by omega, by omega⟩ fun q g4 hq hg4 => ?_
    fail "go"
    refine ⟨l ++ [(k, q)], _, _, ⟨by simp [h1], ?_, jk_dat, hg4⟩, by rw [List.map_append]; rfl, rfl⟩
    intro p hp
    rcases List.mem_append.mp hp with h | h
    · exact h2 p h
    · rw [List.mem_singleton.mp h]; exact ⟨by omega, hq⟩
  · rintro ys _ ⟨l, o5, g2, ⟨h1, h2, h3, h4⟩, rfl, rfl⟩
    have h5 : (rngD 0 (1 + (n : Int))).length = 1 + n := by rw [rngD_lenN]; omega
    dsimp only at h1
    rw [h5] at h1
    refine ⟨by rw [List.length_map, h1]; unfold lim; omega, ?_⟩
    fail "go"
    refine call_subset (m := 1 + n) hu rfl h4 ⟨by omega, by omega⟩ fun q g4 hq hg4 => ?_
    fail "go"
    refine ⟨⟨⟨c, q, l⟩, rfl, ⟨hc, hc4, by dsimp only; omega, by dsimp only; omega, by dsimp only; rw [h1]; exact hq, by dsimp only; rw [h1]; exact h2⟩, rfl, by dsimp only; omega⟩, hg4⟩
theorem path_ok {Fs : Nat → Fn} {i : Nat} (hp : PickOk (Fs i)) : PathOkL ⟨false, 3, fnRun Fs 5 (B_law_path i)⟩ := by
  refine ⟨rfl, rfl, fun g s m hg hs hm hm2 => fnRun_go (sl := [some (.gl 0), some (.dat s.enc), some (.dat (.int m)), none, none]) rfl ?_⟩
  unfold B_law_path
  have hst := hs.st.len
  have hst0 : 0 < s.st.length := List.length_pos_iff.mpr hs.st.1
  have h8 := hs.l8
  fail "go"
  refine call_pickT hp rfl hg ⟨by rw [List.length_map]; exact hst0, by rw [List.length_map]; omega⟩ ?_
  intro x g1 hx hg1
  obtain ⟨a, ha, rfl⟩ := List.mem_map.mp hx
  fail "go"
  refine exO (op_rng (mid_of (by omega) (by omega))) ?_
  refine ⟨fun j r => ∃ (p : List Nat) (o4 : Option SV) (g : List GE), (p.length = j + 1 ∧ PathS s p ∧ Jk o4 ∧ Bx g) ∧ r = ⟨[some (.gl 0), some (.dat s.enc), some (.dat (.int m)), some (.own (.list (p.map fun (n : Nat) => PyData.int (n : Int)))), o4], g⟩, ⟨[a], none, _, ⟨rfl, ⟨by simp, ha, fun k hk => by simp at hk⟩, jk_none, hg1⟩, rfl⟩, ?_, ?_⟩
  · rintro j x _ e ⟨p, o4, g2, ⟨h1, h2, h3, h4⟩, rfl⟩
    obtain ⟨rfl, hj⟩ := rngD_at e
    have hjl : j < p.length := by omega
    have hlt := h2.lt hs j hjl
    obtain ⟨q, eq, enx⟩ := s.nx_at hlt
    have hq := hs.rise hlt
    rw [enx] at hq
    have hql := hq.len
    have hq0 : 0 < q.2.length := List.length_pos_iff.mpr hq.1
    refine ⟨_, wr_jk h3, ?_⟩
    fail "go"
    refine exO (op_of rfl (show f_idx [.list _, .int (0 + j)] = _ from (atD_int (i := j) (by omega) (getD_nT hjl)))) ?_
    fail "go"
    refine exO (op_idxT (atD_nat (st_at eq))) ?_
    fail "go"
    refine call_pickT hp rfl h4 ⟨by rw [List.length_map]; exact hq0, by rw [List.length_map]; omega⟩ ?_
    intro x g3 hx hg3
    obtain ⟨b, hb, rfl⟩ := List.mem_map.mp hx
    fail "go"
    refine exMo rfl rfl rfl (mu_app (by rw [List.length_map]; unfold lim; omega)) ?_
    fail "go"
    refine ⟨p ++ [b], _, _, ⟨by simp [h1], ⟨by simp, ?_, ?_⟩, jk_dat, hg3⟩, by rw [List.map_append]; rfl⟩
    · have := h2.st
      rwa [getD_l (by omega)]
    · intro k hk
      rw [List.length_append] at hk
      have hk' : k < p.length := by simp at hk; omega
      rw [getD_l hk']
      by_cases hk2 : k + 1 < p.length
      · rw [getD_l hk2]; exact h2.go k hk2
      · have : k = j := by omega
        subst this
        rw [getD_r (by omega), enx]
        exact hb
  · rintro _ ⟨p, o4, g2, ⟨h1, h2, h3, h4⟩, rfl⟩
    rw [rngD_lenN] at h1
    fail "go"
    exact ⟨⟨p, rfl, h2, by omega⟩, h4⟩
end Mp
set_option Elab.async false
set_option linter.all false
set_option maxRecDepth 100000
set_option maxHeartbeats 1000000
/-! LpC: what several laws need (plain Lean; from the proof of k02) -/
namespace Mp
open PySem
def iT (xs : List Int) : D := .tuple (xs.map fun (n : Int) => PyData.int n)
theorem f_eq_of {a b : D} (h : PyData.plain a = true) (h2 : PyData.plain b = true) (h3 : min a.depth b.depth ≤ 40) : f_eq [a, b] = some (.bool (PyData.eqv a b)) := by
  unfold f_eq minDep; dsimp only; rw [h, h2, decide_eq_true h3]; rfl
theorem f_ne_of {a b : D} (h : PyData.plain a = true) (h2 : PyData.plain b = true) (h3 : min a.depth b.depth ≤ 40) : f_ne [a, b] = some (.bool (!PyData.eqv a b)) := by
  unfold f_ne minDep; dsimp only; rw [h, h2, decide_eq_true h3]; rfl
theorem plain_iT {xs : List Int} : PyData.plain (iT xs) = true := by
  have := plainN (f := fun (n : Int) => n) xs
  simpa [iT, PyData.plain] using this
theorem eqv_nil {xs : List D} : PyData.eqv (.tuple xs) (.tuple []) = xs.isEmpty := by
  cases xs <;> simp [PyData.eqv, PyData.eqvAll]
theorem eqv_nilL {xs : List D} : PyData.eqv (.list xs) (.list []) = xs.isEmpty := by
  cases xs <;> simp [PyData.eqv, PyData.eqvAll]
theorem plain_ints : ∀ (xs : List D), (∀ x ∈ xs, ∃ i, x = .int i) → PyData.plainAll xs = true
  | [], _ => rfl
  | x :: xs, h => by
    obtain ⟨i, rfl⟩ := h x List.mem_cons_self
    have := plain_ints xs fun y hy => h y (List.mem_cons_of_mem _ hy)
    simp [PyData.plainAll, PyData.plain, this]
theorem rngD_mem {lo hi : Int} {x : D} (h : x ∈ rngD lo hi) : ∃ j : Nat, x = .int (lo + j) ∧ (j : Int) < hi - lo := by
  obtain ⟨j, hjl, hje⟩ := List.mem_iff_getElem.mp h
  obtain ⟨h1, h2⟩ := rngD_at (List.getElem?_eq_getElem hjl)
  exact ⟨j, hje ▸ h1, h2⟩
theorem flat_empty {α β : Type} {g : α → List β} : ∀ (l : List α), (l.flatMap g).isEmpty = l.all fun a => (g a).isEmpty
  | [] => rfl
  | a :: l => by
    rw [List.flatMap_cons, List.all_cons, ← flat_empty l]
    cases g a <;> rfl
theorem rng_flat {c : Nat → Bool} {n : Nat} : ((rngD 1 n).flatMap fun x => if c ((toI x).toNat - 1) then [] else [x]).isEmpty = (List.range (n - 1)).all c := by
  unfold rngD
  rw [List.flatMap_map, flat_empty]
  have : ((n : Int) - 1).toNat = n - 1 := by omega
  rw [this]
  congr 1
  funext j
  have h : (toI (.int (1 + (j : Int)))).toNat - 1 = j := by show (1 + (j : Int)).toNat - 1 = j; omega
  rw [h]
  cases c j <;> rfl
theorem lastN_eq {p : List Nat} (h : p ≠ []) : lastN p = p.getD (p.length - 1) 0 := by
  unfold lastN
  rw [List.getLastD_eq_getLast?, List.getLast?_eq_getElem?, List.getD_eq_getElem?_getD]
theorem grow_take {s : Sy} {l : List (List Nat)} {i : Nat} {p : List Nat} (e : l[i]? = some p) : grow s (l.take (i + 1)) = grow s (l.take i) ++ (s.nx (lastN p)).map fun t => p ++ [t] := by
  unfold grow
  rw [List.take_add_one, e]
  simp
theorem bulk_nT : ∀ p : List Nat, PyData.bulkAll (p.map fun (n : Nat) => PyData.int (n : Int)) = p.length
  | [] => rfl
  | n :: p => by
    have := bulk_nT p
    simp only [List.map_cons, PyData.bulkAll, PyData.bulk, List.length_cons]
    omega
theorem bulk_paths {m : Nat} : ∀ l : List (List Nat), (∀ p ∈ l, p.length = m) → PyData.bulkAll (l.map nT) = (m + 1) * l.length
  | [], _ => by simp [PyData.bulkAll]
  | p :: l, h => by
    have h1 := bulk_paths l fun q hq => h q (List.mem_cons_of_mem _ hq)
    have h2 := h p List.mem_cons_self
    rw [List.map_cons, PyData.bulkAll, h1, List.length_cons, Nat.mul_add_one]
    show PyData.bulkAll _ + 1 + _ = _
    rw [bulk_nT, h2]
    omega
theorem leaf_nat {n : Nat} (h : n < 8) : PyData.leavesShort 8 (.int n) = true := by
  have : n = 0 ∨ n = 1 ∨ n = 2 ∨ n = 3 ∨ n = 4 ∨ n = 5 ∨ n = 6 ∨ n = 7 := by omega
  rcases this with rfl | rfl | rfl | rfl | rfl | rfl | rfl | rfl <;> decide
theorem show_nat {n : Nat} (h : n < 8) : PyData.showable (.int n) = true := by
  have : n = 0 ∨ n = 1 ∨ n = 2 ∨ n = 3 ∨ n = 4 ∨ n = 5 ∨ n = 6 ∨ n = 7 := by omega
  rcases this with rfl | rfl | rfl | rfl | rfl | rfl | rfl | rfl <;> decide
theorem leaf_nT : ∀ p : List Nat, (∀ n ∈ p, n < 8) → PyData.leavesShortAll 8 (p.map fun (n : Nat) => PyData.int (n : Int)) = true
  | [], _ => rfl
  | n :: p, h => by
    rw [List.map_cons, PyData.leavesShortAll, leaf_nat (h n List.mem_cons_self), leaf_nT p fun q hq => h q (List.mem_cons_of_mem _ hq)]
    rfl
theorem show_nT : ∀ p : List Nat, (∀ n ∈ p, n < 8) → PyData.showableAll (p.map fun (n : Nat) => PyData.int (n : Int)) = true
  | [], _ => rfl
  | n :: p, h => by
    rw [List.map_cons, PyData.showableAll, show_nat (h n List.mem_cons_self), show_nT p fun q hq => h q (List.mem_cons_of_mem _ hq)]
    rfl
theorem leaf_paths : ∀ l : List (List Nat), (∀ p ∈ l, ∀ n ∈ p, n < 8) → PyData.leavesShortAll 8 (l.map nT) = true
  | [], _ => rfl
  | p :: l, h => by
    rw [List.map_cons, PyData.leavesShortAll, leaf_paths l fun q hq => h q (List.mem_cons_of_mem _ hq)]
    show (PyData.leavesShortAll 8 _ && true) = true
    rw [leaf_nT p (h p List.mem_cons_self)]
    rfl
theorem show_paths : ∀ l : List (List Nat), (∀ p ∈ l, ∀ n ∈ p, n < 8) → PyData.showableAll (l.map nT) = true
  | [], _ => rfl
  | p :: l, h => by
    rw [List.map_cons, PyData.showableAll, show_paths l fun q hq => h q (List.mem_cons_of_mem _ hq)]
    show (PyData.showableAll _ && true) = true
    rw [show_nT p (h p List.mem_cons_self)]
    rfl
theorem plain_nTs : ∀ l : List (List Nat), PyData.plainAll (l.map nT) = true
  | [] => rfl
  | p :: l => by
    rw [List.map_cons, PyData.plainAll, plain_nTs l]
    show (PyData.plainAll _ && true) = true
    rw [plainN p]
    rfl
theorem depthI {α : Type} {f : α → Int} : ∀ l : List α, PyData.depthAll (l.map fun n => PyData.int (f n)) = 0
  | [] => rfl
  | n :: l => by
    rw [List.map_cons, PyData.depthAll, depthI l]
    simp [PyData.depth]
theorem depth_nTs : ∀ l : List (List Nat), PyData.depthAll (l.map nT) ≤ 1
  | [] => Nat.zero_le _
  | p :: l => by
    rw [List.map_cons, PyData.depthAll]
    have h1 := depth_nTs l
    have h2 : (nT p).depth = 1 := by
      show PyData.depthAll _ + 1 = 1
      rw [depthI p]
    rw [h2]
    omega
theorem repr_paths {m n : Nat} {l : List (List Nat)} (h : In n m l) (hn : n ≤ 8) (hl : (m + 1) * l.length ≤ 2 ^ 20) : f_repr [.list (l.map nT)] = some (.str (PyData.shown (.list (l.map nT)))) := by
  have h8 : ∀ p ∈ l, ∀ n ∈ p, n < 8 := fun p hp x hx => by have := (h p hp).2 x hx; omega
  have h1 : PyData.showable (.list (l.map nT)) = true := show_paths l h8
  have h2 : PyData.plain (.list (l.map nT)) = true := plain_nTs l
  have h3 : (PyData.list (l.map nT)).depth ≤ 40 := by
    show PyData.depthAll _ + 1 ≤ 40
    have := depth_nTs l
    omega
  have h4 : (PyData.shown (.list (l.map nT))).length ≤ lim := by
    have := PyData.shown_fits_bulk (B := 8) (by decide) (by decide) (d := .list (l.map nT)) (leaf_paths l h8) (by show PyData.bulkAll _ ≤ _; rw [bulk_paths l fun p hp => (h p hp).1]; exact hl)
    exact this
  unfold f_repr
  dsimp only
  rw [h1, h2, decide_eq_true h3, decide_eq_true h4]
  rfl
mutual
theorem eqv_self : ∀ d : D, PyData.plain d = true → PyData.eqv d d = true
  | .none, _ => rfl
  | .bool b, _ => by cases b <;> rfl
  | .int i, _ => by simp [PyData.eqv]
  | .str i, _ => by simp [PyData.eqv]
  | .list xs, h => by 
    have := eqvAll_self xs (by simpa [PyData.plain] using h)
    simpa [PyData.eqv] using this
  | .tuple xs, h => by 
    have := eqvAll_self xs (by simpa [PyData.plain] using h)
    simpa [PyData.eqv] using this
  | .dict xs, h => by simp [PyData.plain] at h
theorem eqvAll_self : ∀ d : List D, PyData.plainAll d = true → PyData.eqvAll d d = true
  | [], _ => rfl
  | x :: xs, h => by
    simp [PyData.plainAll] at h
    simp [PyData.eqvAll, eqv_self x h.1, eqvAll_self xs h.2]
end
/-! all states as nexts -/
def fullS (m : Nat) : Sy := ⟨1, List.range m, List.replicate m (0, List.range m)⟩
theorem rise_range {m : Nat} (h : 0 < m) : Rise m (List.range m) :=
  ⟨by intro e; have := congrArg List.length e; simp at this; omega, List.pairwise_lt_range, fun x hx => List.mem_range.mp hx⟩
theorem full_ok {m : Nat} (h : 0 < m) (h8 : m ≤ 8) : (fullS m).Ok := by
  refine ⟨Nat.le_refl 1, (by show 1 ≤ 4; decide), ?_, ?_, ?_, ?_⟩
  · show 1 ≤ (List.replicate m _).length; rw [List.length_replicate]; exact h
  · show (List.replicate m _).length ≤ 8; rw [List.length_replicate]; exact h8
  · show Rise (List.replicate m _).length _; rw [List.length_replicate]; exact rise_range h
  · intro p hp
    show _ ∧ Rise (List.replicate m _).length _
    rw [List.length_replicate]
    rw [(List.mem_replicate.mp hp).2]
    exact ⟨Nat.zero_lt_one, rise_range h⟩
theorem full_nx {m i : Nat} (h : i < m) : (fullS m).nx i = List.range m := by
  unfold Sy.nx fullS
  dsimp only
  rw [List.getD_eq_getElem?_getD, List.getElem?_replicate, if_pos h]
  rfl
theorem flat_len_eq {α β : Type} {f : α → List β} {m : Nat} : ∀ (l : List α), (∀ a ∈ l, (f a).length = m) → (l.flatMap f).length = l.length * m
  | [], _ => by simp
  | a :: l, h => by
    have h1 := h a (List.mem_cons_self)
    have h2 := flat_len_eq l fun b hb => h b (List.mem_cons_of_mem _ hb)
    rw [List.flatMap_cons, List.length_append, List.length_cons, Nat.add_one_mul]
    omega
theorem full_last {m k : Nat} {p : List Nat} (h : 0 < m) (h8 : m ≤ 8) (hp : p ∈ pathsN (fullS m) k) : lastN p < m := by
  obtain ⟨h1, h2⟩ := pathsN_in (full_ok h h8) k p hp
  have : (fullS m).ss.length = m := List.length_replicate
  rw [this] at h2
  exact last_lt (by intro e; rw [e] at h1; cases h1) h2
theorem full_len {m : Nat} (h : 0 < m) (h8 : m ≤ 8) : ∀ k, (pathsN (fullS m) k).length = m ^ (k + 1)
  | 0 => by show ((List.range m).map _).length = _; rw [List.length_map, List.length_range, Nat.zero_add, Nat.pow_one]
  | k + 1 => by
    show (grow _ _).length = _
    unfold grow
    rw [flat_len_eq (m := m), full_len h h8 k, ← Nat.pow_succ]
    intro p hp
    rw [List.length_map, full_nx (full_last h h8 hp), List.length_range]
theorem flat_first {α β : Type} {f : α → List β} {l : List α} {a : α} {b : β} (h : l[0]? = some a) (h2 : (f a)[0]? = some b) : (l.flatMap f)[0]? = some b := by
  cases l with
  | nil => cases h
  | cons x l =>
    have : x = a := by simpa using h
    subst this
    rw [List.flatMap_cons]
    cases e : f x with
    | nil => rw [e] at h2; cases h2
    | cons y q => rw [e] at h2; simpa using h2
theorem flat_last {α β : Type} {f : α → List β} {l : List α} {a : α} {b : β} (h : l.getLast? = some a) (h2 : (f a).getLast? = some b) : (l.flatMap f).getLast? = some b := by
  have hl : l ≠ [] := by intro e; rw [e] at h; cases h
  rw [← List.dropLast_concat_getLast hl]
  rw [List.getLast?_eq_some_getLast hl] at h
  have : l.getLast hl = a := Option.some.inj h
  rw [this, List.flatMap_append, List.flatMap_cons, List.flatMap_nil, List.append_nil, List.getLast?_append, h2]
  rfl
theorem full_first {m : Nat} (h : 0 < m) (h8 : m ≤ 8) : ∀ k, (pathsN (fullS m) k)[0]? = some (List.replicate (k + 1) 0)
  | 0 => by
    show ((List.range m).map _)[0]? = _
    rw [List.getElem?_map, List.getElem?_range h]
    rfl
  | k + 1 => by
    refine flat_first (full_first h h8 k) ?_
    have h1 : lastN (List.replicate (k + 1) 0) < m := by
      refine last_lt (by simp) fun x hx => ?_
      rw [(List.mem_replicate.mp hx).2]; exact h
    rw [full_nx h1, List.getElem?_map, List.getElem?_range h, List.replicate_succ' (n := k + 1)]
    rfl
theorem full_final {m : Nat} (h : 0 < m) (h8 : m ≤ 8) : ∀ k, (pathsN (fullS m) k).getLast? = some (List.replicate (k + 1) (m - 1))
  | 0 => by
    show ((List.range m).map _).getLast? = _
    rw [List.getLast?_map, List.getLast?_eq_getElem?, List.length_range, List.getElem?_range (by omega)]
    rfl
  | k + 1 => by
    refine flat_last (full_final h h8 k) ?_
    have h1 : lastN (List.replicate (k + 1) (m - 1)) < m := by
      refine last_lt (by simp) fun x hx => ?_
      rw [(List.mem_replicate.mp hx).2]; omega
    rw [full_nx h1, List.getLast?_map, List.getLast?_eq_getElem?, List.length_range, List.getElem?_range (by omega), List.replicate_succ' (n := k + 1)]
    rfl
theorem rngD0 {m : Nat} {i : Int} (h : i = m) : PyData.tuple (rngD 0 i) = nT (List.range m) := by
  subst h
  unfold rngD nT
  congr 1
  rw [Int.sub_zero, Int.toNat_natCast]
  congr 1
  funext i
  rw [Int.zero_add]
theorem repD1 {m : Nat} {i : Int} {x : D} (h : i = m) : repD i [x] = List.replicate m x := by
  subst h
  unfold repD
  rw [Int.toNat_natCast]
  induction m with
  | zero => rfl
  | succ n ih => rw [List.replicate_succ, List.flatten_cons, ih, List.replicate_succ]; rfl
theorem fullD {m : Nat} {i : Int} (h : i = m) : PyData.tuple [.int 1, .tuple (rngD 0 i), .tuple (repD i [.tuple [.int 0, .tuple (rngD 0 i)]])] = (fullS m).enc := by
  rw [rngD0 h, repD1 h]
  unfold Sy.enc fullS
  dsimp only
  rw [List.map_replicate]
  rfl
theorem mulT {c : Int} {k : Nat} (hk : k ≤ 100) : f_mul [.tuple [.int c], .int (k + 1 : Nat)] = some (iT (List.replicate (k + 1) c)) := by
  have h1 : repD (k + 1 : Nat) [.int c] = List.replicate (k + 1) (.int c) := repD1 rfl
  unfold f_mul iT
  dsimp only
  rw [h1, List.map_replicate]
  by_cases h : 1 ≤ k
  · rw [if_pos ⟨by omega, by omega, by show 1 ≤ 1000; decide, rfl⟩]
  · have : k = 0 := by omega
    subst this
    rw [if_neg (by omega), if_pos (by decide)]
    rfl
def forBodyS : Ss → Ss
  | .cons (.for_ _ _ b) _ => b
  | _ => .nil
theorem cut_ints (p : List Nat) (lo hi : Option Int) : ∃ ys : List Int, cutD (p.map fun (n : Nat) => PyData.int (n : Int)) lo hi = ys.map (fun (n : Int) => PyData.int n) ∧ ys.length ≤ p.length := by
  refine ⟨((p.map fun (n : Nat) => (n : Int)).drop (HT.sIx p.length 0 lo)).take (HT.sIx p.length p.length hi - HT.sIx p.length 0 lo), ?_, ?_⟩
  · unfold cutD
    rw [List.map_take, List.map_drop, List.map_map, List.length_map]
    rfl
  · rw [List.length_take, List.length_drop, List.length_map]
    omega
theorem cut_len (xs : List D) (lo hi : Option Int) : (cutD xs lo hi).length ≤ xs.length := by
  unfold cutD
  rw [List.length_take, List.length_drop]
  omega
theorem wp_at {α : Type} {m : M α} {r r' : Rho} {K : α → Rho → Prop} {X : Nat → Rho → Prop} (e : r = r') (h : m.wp r' K X) : m.wp r K X := e ▸ h
theorem wSs_at {Fs : Nat → Fn} {ss : Ss} {r r' : Rho} {N : Rho → Prop} {R : SV → List GE → Prop} {Bk Ct : Rho → Prop} {X : Nat → Rho → Prop} (e : r = r') (h : wSs Fs ss r' N R Bk Ct X) : wSs Fs ss r N R Bk Ct X := e ▸ h
theorem law_of {Fs : Nat → Fn} {n i : Nat} {B : Ss} {ns : List Int} (h : wSs Fs B ⟨(List.replicate n none).set i (some (.gl 0)), [.lst (boxD ns)]⟩ (fun _ => False) (fun v _ => v = .dat (.bool true)) (fun _ => False) (fun _ => False) fun _ _ => False) : ∃ g, lawRun Fs n i B ns = some (.ret (.dat (.bool true)) g) := by
  unfold wSs Dn.at at h
  unfold lawRun
  split at h
  · exact h.elim
  · exact h.elim
  · next e => subst h; exact ⟨_, e⟩
  · exact h.elim
  · exact h.elim
  · exact h.elim
theorem Bx_box (ns : List Int) : Bx [.lst (boxD ns)] := ⟨0, 0, 0, ns.map absI, by decide, by rw [List.map_map]; rfl⟩
theorem call_at {F : Fn} {os : List Opd} {r : Rho} {K : SV → Rho → Prop} {X : Nat → Rho → Prop} {ds : List D} {P : SV → Prop} (hp : F.pu = true) (hn : F.n = ds.length) (ho : datsO os = some ds) (h : CR.at (fun v _ => P v) (fun _ _ => False) (F.run (ds.map .dat) [])) (hv : ∀ v, P v → v.out = true) (k : ∀ v, P v → K v r) : (doCall F os).wp r K X := by
  refine call_pure hp hn ho ?_
  obtain ⟨v, g', e, h1⟩ := CR.at_ret h
  rw [e]
  exact ⟨hv v h1, k v h1⟩
theorem f_rngT_of {i : Int} (h : 0 ≤ i) (h2 : i ≤ 1000000) : f_rngT [.int i] = some (.tuple (rngD 0 i)) := by
  unfold f_rngT
  dsimp only
  rw [mid_of h h2, decide_eq_true (by omega)]
  rfl
theorem f_mulX {i : Int} {x : D} (h : 2 ≤ i) (h2 : i ≤ 1000) : f_mul [.tuple [x], .int i] = some (.tuple (repD i [x])) := by
  unfold f_mul
  dsimp only
  rw [if_pos ⟨h, h2, by show 1 ≤ 1000; decide, rfl⟩]
end Mp
set_option Elab.async false
set_option linter.all false
set_option maxRecDepth 100000
set_option maxHeartbeats 2000000
/-! Lp6: spoilt systems (plain Lean) -/
namespace Mp
open PySem
def Bsys (e : E) (i__law_take i__law_pick : Nat) : Ss := (.cons (.unp (.tup [(.nm 6), (.nm 7), (.nm 8)]) (.fz 1))
    (.cons (.asg 2 (.op .len (.cons (.nm 8) .nil)))
    (.cons (.asg 3 (.call i__law_take (.cons (.nm 0) (.cons (.fz 2) .nil))))
    (.cons (.unp (.tup [(.nm 9), (.nm 10)]) (.op .idx (.cons (.nm 8) (.cons (.nm 3) .nil))))
    (.cons (.asg 4 (.lst (.cons (.tup (.cons (.fz 6) (.cons (.fz 10) .nil))) (.cons (.tup (.cons (.op .neg (.cons (.k (.int 1)) .nil)) (.cons (.fz 10) .nil))) (.cons (.tup (.cons (.k (.bool true)) (.cons (.fz 10) .nil))) (.cons (.tup (.cons (.k .none) (.cons (.fz 10) .nil))) (.cons (.tup (.cons (.fz 9) (.cons (.tup .nil) .nil))) (.cons (.tup (.cons (.fz 9) (.cons (.tup (.cons (.fz 2) .nil)) .nil))) (.cons (.tup (.cons (.fz 9) (.cons (.tup (.cons (.op .neg (.cons (.k (.int 1)) .nil)) .nil)) .nil))) (.cons (.tup (.cons (.fz 9) (.cons (.tup (.cons (.op .idx (.cons (.nm 10) (.cons (.k (.int 0)) .nil))) (.cons (.op .idx (.cons (.nm 10) (.cons (.k (.int 0)) .nil))) .nil))) .nil))) (.cons (.tup (.cons (.fz 9) (.cons (.tup (.cons (.k (.bool false)) .nil)) .nil))) (.cons (.tup (.cons (.fz 9) (.cons (.k .none) .nil))) (.cons (.tup (.cons (.fz 9) .nil)) (.cons (.tup (.cons (.fz 9) (.cons (.fz 10) (.cons (.k (.int 0)) .nil)))) (.cons (.tup (.cons (.fz 10) (.cons (.fz 9) .nil))) (.cons (.k .none) (.cons (.k (.int 0)) (.cons (.tup (.cons (.fz 9) (.cons e .nil))) (.cons (.tup (.cons (.fz 9) (.cons (.tup (.cons (.k (.str "0")) .nil)) .nil))) .nil)))))))))))))))))))
    (.cons (.asg 4 (.op .add (.cons (.nm 4) (.cons (.lc [11] (.tup (.cons (.fz 9) (.cons (.op .add (.cons (.nm 10) (.cons (.tup (.cons (.fz 11) .nil)) .nil))) .nil))) (.nm 11) (.seq (.tup (.cons (.fz 2) (.cons (.k (.str "0")) (.cons (.k .none) (.cons (.op .idx (.cons (.nm 10) (.cons (.op .sub (.cons (.op .len (.cons (.nm 10) .nil)) (.cons (.k (.int 1)) .nil))) .nil))) (.cons (.op .neg (.cons (.k (.int 1)) .nil)) (.cons (.tup (.cons (.k (.int 0)) .nil)) .nil))))))))) .nil))))
    (.cons (.ite (.op .gt (.cons (.op .len (.cons (.nm 10) .nil)) (.cons (.k (.int 1)) .nil))) (.cons (.mut .app 4 (.cons (.tup (.cons (.fz 9) (.cons (.tup (.cons (.op .idx (.cons (.nm 10) (.cons (.k (.int 1)) .nil))) (.cons (.op .idx (.cons (.nm 10) (.cons (.k (.int 0)) .nil))) .nil))) .nil))) .nil))
    .nil) .nil)
    (.cons (.ite (.op .eq (.cons (.nm 10) (.cons (.tup (.cons (.k (.int 0)) .nil)) .nil))) (.cons (.mut .app 4 (.cons (.tup (.cons (.fz 9) (.cons (.tup (.cons (.k (.int 0)) (.cons (.k (.bool true)) .nil))) .nil))) .nil))
    .nil) .nil)
    (.cons (.asg 5 (.lc [11] (.tup (.cons (.fz 6) (.cons (.fz 7) (.cons (.op .add (.cons (.op .add (.cons (.op .slH (.cons (.nm 8) (.cons (.nm 3) .nil))) (.cons (.tup (.cons (.fz 11) .nil)) .nil))) (.cons (.op .slL (.cons (.nm 8) (.cons (.op .add (.cons (.nm 3) (.cons (.k (.int 1)) .nil))) .nil))) .nil))) .nil)))) (.nm 11) (.seq (.nm 4))))
    (.cons (.asg 5 (.op .add (.cons (.nm 5) (.cons (.lst (.cons (.tup (.cons (.k (.int 0)) (.cons (.fz 7) (.cons (.fz 8) .nil)))) (.cons (.tup (.cons (.k (.int 5)) (.cons (.fz 7) (.cons (.fz 8) .nil)))) (.cons (.tup (.cons (.k (.bool true)) (.cons (.fz 7) (.cons (.fz 8) .nil)))) (.cons (.tup (.cons (.fz 6) (.cons (.tup .nil) (.cons (.fz 8) .nil)))) (.cons (.tup (.cons (.fz 6) (.cons (.tup (.cons (.fz 2) .nil)) (.cons (.fz 8) .nil)))) (.cons (.tup (.cons (.fz 6) (.cons (.tup (.cons (.op .neg (.cons (.k (.int 1)) .nil)) .nil)) (.cons (.fz 8) .nil)))) (.cons (.tup (.cons (.fz 6) (.cons (.tup (.cons (.op .idx (.cons (.nm 7) (.cons (.k (.int 0)) .nil))) (.cons (.op .idx (.cons (.nm 7) (.cons (.k (.int 0)) .nil))) .nil))) (.cons (.fz 8) .nil)))) (.cons (.tup (.cons (.fz 6) (.cons (.tup (.cons (.k (.bool false)) .nil)) (.cons (.fz 8) .nil)))) (.cons (.tup (.cons (.fz 6) (.cons (.fz 7) (.cons (.tup .nil) .nil)))) (.cons (.tup (.cons (.fz 6) (.cons (.fz 7) .nil))) (.cons (.tup (.cons (.fz 6) (.cons (.fz 7) (.cons (.fz 8) (.cons (.k (.int 0)) .nil))))) (.cons (.tup (.cons (.fz 7) (.cons (.fz 6) (.cons (.fz 8) .nil)))) (.cons (.k .none) (.cons (.k (.int 7)) (.cons (.k (.str "system")) (.cons (.tup .nil) (.cons (.tup (.cons (.fz 6) (.cons (.k (.int 0)) (.cons (.fz 8) .nil)))) (.cons (.tup (.cons (.fz 6) (.cons (.fz 7) (.cons (.k (.str "s")) .nil)))) (.cons (.tup (.cons (.fz 6) (.cons (.fz 7) (.cons (.op .add (.cons (.nm 8) (.cons (.op .mul (.cons (.nm 8) (.cons (.k (.int 8)) .nil))) .nil))) .nil)))) .nil)))))))))))))))))))) .nil))))
    (.cons (.asg 5 (.op .add (.cons (.op .add (.cons (.nm 5) (.cons (.lc [11] (.tup (.cons (.fz 6) (.cons (.op .add (.cons (.nm 7) (.cons (.tup (.cons (.fz 11) .nil)) .nil))) (.cons (.fz 8) .nil)))) (.nm 11) (.seq (.tup (.cons (.fz 2) (.cons (.k (.str "0")) (.cons (.k .none) (.cons (.op .idx (.cons (.nm 7) (.cons (.op .sub (.cons (.op .len (.cons (.nm 7) .nil)) (.cons (.k (.int 1)) .nil))) .nil))) (.cons (.op .neg (.cons (.k (.int 1)) .nil)) (.cons (.tup (.cons (.k (.int 0)) .nil)) .nil))))))))) .nil))) (.cons (.lc [11] (.tup (.cons (.fz 6) (.cons (.tup (.cons (.fz 11) .nil)) (.cons (.fz 8) .nil)))) (.nm 11) (.seq (.tup (.cons (.k (.str "0")) (.cons (.k .none) (.cons (.tup (.cons (.k (.int 0)) .nil)) .nil)))))) .nil))))
    (.cons (.ite (.op .gt (.cons (.op .len (.cons (.nm 7) .nil)) (.cons (.k (.int 1)) .nil))) (.cons (.mut .app 5 (.cons (.tup (.cons (.fz 6) (.cons (.tup (.cons (.op .idx (.cons (.nm 7) (.cons (.k (.int 1)) .nil))) (.cons (.op .idx (.cons (.nm 7) (.cons (.k (.int 0)) .nil))) .nil))) (.cons (.fz 8) .nil)))) .nil))
    .nil) .nil)
    (.cons (.ite (.op .gt (.cons (.nm 2) (.cons (.k (.int 1)) .nil))) (.cons (.asg 5 (.op .add (.cons (.nm 5) (.cons (.lst (.cons (.tup (.cons (.fz 6) (.cons (.tup (.cons (.k (.int 1)) (.cons (.k (.int 0)) .nil))) (.cons (.fz 8) .nil)))) (.cons (.tup (.cons (.fz 6) (.cons (.tup (.cons (.k (.int 0)) (.cons (.k (.bool true)) .nil))) (.cons (.fz 8) .nil)))) .nil))) .nil))))
    .nil) .nil)
    (.cons (.ret (.call i__law_pick (.cons (.nm 0) (.cons (.fz 5) .nil))))
    .nil))))))))))))))
theorem rise_app {m : Int} {x : D} : ∀ (xs : List Nat) (b : Int), risingL m b (xs.map (fun (n : Nat) => PyData.int (n : Int)) ++ [x]) = true → withinB x ((xs.getLast?.map fun (n : Nat) => (n : Int)).getD b + 1) (m - 1) = true
  | [], b, h => by
    rw [List.map_nil, List.nil_append] at h
    unfold risingL at h
    split at h
    · simp only [Bool.and_eq_true] at h; exact h.1
    · cases h
  | a :: xs, b, h => by
    rw [List.map_cons, List.cons_append] at h
    unfold risingL at h
    simp only [Bool.and_eq_true] at h
    have := rise_app xs a h.2
    cases xs with
    | nil => exact this
    | cons y xs =>
      rw [List.getLast?_cons_cons]
      rw [List.getLast?_eq_some_getLast (by simp)] at this ⊢
      exact this
theorem within_lo {x : D} {a b c : Int} (h : withinB x a c = true) (hb : b ≤ a) : withinB x b c = true := by
  unfold withinB at h ⊢
  split at h
  · simp only [Bool.and_eq_true, decide_eq_true_eq] at h ⊢; omega
  · cases h
/-- a thing behind a rising tuple that makes it none -/
theorem rise_bad {m : Nat} {x : D} {xs : List Nat} (hr : Rise m xs) (h : withinB x ((lastN xs : Int) + 1) (m - 1) = false) : risingB m (.tuple (xs.map (fun (n : Nat) => PyData.int (n : Int)) ++ [x])) = false := by
  cases e : risingB m (.tuple (xs.map (fun (n : Nat) => PyData.int (n : Int)) ++ [x])) with
  | false => rfl
  | true =>
    have h1 := rise_app xs (-1) e
    have h2 : (xs.getLast?.map fun (n : Nat) => (n : Int)).getD (-1) = (lastN xs : Int) := by
      unfold lastN
      rw [List.getLastD_eq_getLast?, List.getLast?_eq_some_getLast hr.1]
      rfl
    rw [h2, h] at h1
    cases h1
structure BadSOk (F : Fn) : Prop where
  pu : F.pu = false
  n : F.n = 2
  run : ∀ g (s : Sy), Bx g → s.Ok → CR.at (fun v g' => (∃ x, v = .dat x ∧ sysB x = false) ∧ Bx g') (fun _ _ => False) (F.run [.gl 0, .dat s.enc] g)
/-- an expression that gives a whole number -/
def Numb (Fs : Nat → Fn) (e : E) (i : Nat) : Prop := ∀ (r : Rho) (q : List Nat) (K : Opd → Rho → Prop) (X : Nat → Rho → Prop), q ≠ [] → r.at i = some (.dat (nT q)) → (∀ z : Int, K (.d (.int z)) r) → wE Fs e r K X
def Ast (s : Sy) (at_ : Nat) (k : Nat) (q : List Nat) (o4 o5 o11 : Option SV) (g : List GE) : Rho := ⟨[some (.gl 0), some (.dat s.enc), some (.dat (.int (s.ss.map stD).length)), some (.dat (.int at_)), o4, o5, some (.dat (.int s.c)), some (.dat (nT s.st)), some (.dat (.tuple (s.ss.map stD))), some (.dat (.int k)), some (.dat (nT q)), o11], g⟩
def P1 (s : Sy) (at_ : Nat) (k : Nat) (q : List Nat) (m : Nat) (r : Rho) : Prop := ∃ L g, (∀ x ∈ L, stateB s.ss.length s.c x = false) ∧ L.length ≤ m ∧ Bx g ∧ r = Ast s at_ k q (some (.own (.list L))) none none g
def P2 (s : Sy) (at_ : Nat) (k : Nat) (q : List Nat) (m0 m : Nat) (r : Rho) : Prop := ∃ L o4 g, (∀ x ∈ L, sysB x = false) ∧ (m0 ≤ L.length ∧ L.length ≤ m ∧ Jk o4) ∧ Bx g ∧ r = Ast s at_ k q o4 (some (.own (.list L))) none g
theorem rise_swap {m b0 b1 : Nat} (h : b0 < b1) : risingB m (.tuple [.int b1, .int b0]) = false := by
  simp [risingB, risingL, withinB]
  intros; omega
theorem f_addL {xs ys : List D} (h : xs.length + ys.length ≤ lim) : f_add [.list xs, .list ys] = some (.list (xs ++ ys)) := by
  unfold f_add szLst
  dsimp only
  rw [List.length_append, if_pos h]
theorem lim_of {n : Nat} (h : n ≤ 10000) : n ≤ lim := Nat.le_trans h (by decide)
theorem rise_two {n : Nat} {q : List Nat} (h : Rise n q) (h1 : 1 < q.length) : q.getD 0 0 < q.getD 1 0 := by
  have := List.pairwise_iff_getElem.mp h.2.1 0 1 (by omega) h1 (by decide)
  rw [List.getD_eq_getElem?_getD, List.getD_eq_getElem?_getD, List.getElem?_eq_getElem h1, List.getElem?_eq_getElem (by omega : 0 < q.length)]
  exact this
theorem cut_lo {xs : List D} {a : Nat} (h : a ≤ xs.length) : cutD xs none (some (a : Int)) = xs.take a := by
  unfold cutD HT.sIx
  dsimp only
  rw [if_neg (by omega), List.drop_zero, Int.toNat_natCast, Nat.min_eq_left h, Nat.sub_zero]
theorem cut_hi {xs : List D} {a : Nat} {i : Int} (e : i = a) (h : a ≤ xs.length) : cutD xs (some i) none = xs.drop a := by
  subst e
  unfold cutD HT.sIx
  dsimp only
  rw [if_neg (by omega), Int.toNat_natCast, Nat.min_eq_left h]
  rw [List.take_of_length_le (by rw [List.length_drop]; omega)]
theorem sys_state {c st x : D} {xs : List D} (hx : x ∈ xs) (h : stateB xs.length (toI c) x = false) : sysB (.tuple [c, st, .tuple xs]) = false := by
  have : xs.all (stateB xs.length (toI c)) = false := by
    rw [List.all_eq_false]
    exact ⟨x, hx, by rw [h]; decide⟩
  show (_ && _ && _ && _) = false
  rw [this, Bool.and_false]
theorem sys_start {c st : D} {xs : List D} (h : (risingB xs.length st && truth st) = false) : sysB (.tuple [c, st, .tuple xs]) = false := by
  show (_ && _ && _ && _) = false
  rw [h, Bool.and_false, Bool.false_and]
theorem f_mulN {i : Int} {xs : List D} (h : 2 ≤ i) (h2 : i ≤ 1000) (h3 : xs.length ≤ 1000) (h4 : 0 < xs.length) : f_mul [.tuple xs, .int i] = some (.tuple (repD i xs)) := by
  unfold f_mul
  dsimp only
  rw [if_pos ⟨h, h2, h3, by cases xs; cases h4; rfl⟩]
theorem repD_len {i : Int} {xs : List D} : (repD i xs).length = i.toNat * xs.length := by
  unfold repD
  rw [List.length_flatten, List.map_replicate, List.sum_replicate_nat]
theorem start_bad {n : Nat} {xs : List Nat} {y : D} (hq : Rise n xs) (hy : y ∈ [PyData.int n, .str "0", .none, .int (xs.getD (xs.length - 1) 0 : Nat), .int (-1), .tuple [.int 0]]) : risingB n (.tuple (xs.map (fun (n : Nat) => PyData.int (n : Int)) ++ [y])) = false := by
  refine rise_bad hq ?_
  simp only [List.mem_cons, List.mem_nil_iff, or_false] at hy
  rcases hy with rfl | rfl | rfl | rfl | rfl | rfl
  all_goals try rfl
  all_goals (simp [withinB, lastN_eq hq.1]; try omega)
theorem alone_bad {n : Nat} {y : D} (hy : y ∈ [PyData.str "0", .none, .tuple [.int 0]]) : risingB n (.tuple [y]) = false := by
  simp only [List.mem_cons, List.mem_nil_iff, or_false] at hy
  rcases hy with rfl | rfl | rfl <;> rfl
local macro_rules | `(tactic| fail "w") => `(tactic| first
  | with_reducible refine wSs_cons ?_ | with_reducible refine wSs_nil ?_ | with_reducible refine wS_asg ?_ | with_reducible refine wS_ret ?_ | with_reducible refine wS_ite ?_ | with_reducible refine wS_ex ?_ | with_reducible refine wS_unp ?_ | with_reducible refine wS_for ?_
  | ((with_reducible refine wS_mutO ?_ ?_); exact rfl) | ((with_reducible apply exMg); exact rfl; exact rfl; exact rfl; exact rfl; exact rfl) | ((with_reducible apply exMo); exact rfl; exact rfl; exact rfl; exact rfl)
  | with_reducible refine wS_raise ?_ | with_reducible refine wS_retN ?_ | with_reducible refine wS_par ?_ | with_reducible refine wS_pass ?_ | with_reducible refine wS_tryC ?_
  | with_reducible refine wE_k ?_ | ((with_reducible apply wE_nm); exact rfl) | ((with_reducible apply wE_fz); exact rfl) | ((with_reducible apply wE_fzO); exact rfl) | with_reducible refine wE_op ?_ | with_reducible refine wE_glob ?_ | with_reducible refine wE_call ?_ | with_reducible refine wE_tup ?_ | with_reducible refine wE_lst ?_
  | with_reducible refine wE_chain ?_ | with_reducible refine wE_and ?_ | with_reducible refine wE_or ?_ | with_reducible refine wE_not ?_ | with_reducible refine wE_ife ?_ | with_reducible refine wE_asI ?_
  | with_reducible refine wEs_nil ?_ | with_reducible refine wEs_cons ?_
  | with_reducible refine wT_op ?_ | with_reducible refine wT_lst ?_ | with_reducible refine wT_call ?_ | with_reducible refine wT_lc ?_ | with_reducible refine wT_lcIf ?_ | with_reducible refine wT_lc2 ?_ | ((with_reducible apply wT_of); exact rfl)
  | with_reducible refine wE_lc ?_ | with_reducible refine wE_lcIf ?_ | with_reducible refine wE_lc2 ?_
  | with_reducible refine wI_seq ?_ | with_reducible refine wI_rng ?_ | with_reducible refine wI_rng2 ?_ | with_reducible refine wI_zip2 ?_ | with_reducible refine wI_zip3 ?_)
local macro_rules | `(tactic| fail "v") => `(tactic| first
  | with_reducible refine wSs_nil ?_ | with_reducible refine wS_asg ?_ | with_reducible refine wS_ret ?_ | with_reducible refine wS_ite ?_ | with_reducible refine wS_ex ?_ | with_reducible refine wS_unp ?_ | with_reducible refine wS_for ?_
  | ((with_reducible refine wS_mutO ?_ ?_); exact rfl) | ((with_reducible apply exMg); exact rfl; exact rfl; exact rfl; exact rfl; exact rfl) | ((with_reducible apply exMo); exact rfl; exact rfl; exact rfl; exact rfl)
  | with_reducible refine wS_raise ?_ | with_reducible refine wS_retN ?_ | with_reducible refine wS_par ?_ | with_reducible refine wS_pass ?_ | with_reducible refine wS_tryC ?_
  | with_reducible refine wE_k ?_ | ((with_reducible apply wE_nm); exact rfl) | ((with_reducible apply wE_fz); exact rfl) | ((with_reducible apply wE_fzO); exact rfl) | with_reducible refine wE_op ?_ | with_reducible refine wE_glob ?_ | with_reducible refine wE_call ?_ | with_reducible refine wE_tup ?_ | with_reducible refine wE_lst ?_
  | with_reducible refine wE_chain ?_ | with_reducible refine wE_and ?_ | with_reducible refine wE_or ?_ | with_reducible refine wE_not ?_ | with_reducible refine wE_ife ?_ | with_reducible refine wE_asI ?_
  | with_reducible refine wEs_nil ?_ | with_reducible refine wEs_cons ?_
  | with_reducible refine wT_op ?_ | with_reducible refine wT_lst ?_ | with_reducible refine wT_call ?_ | with_reducible refine wT_lc ?_ | with_reducible refine wT_lcIf ?_ | with_reducible refine wT_lc2 ?_ | ((with_reducible apply wT_of); exact rfl)
  | with_reducible refine wE_lc ?_ | with_reducible refine wE_lcIf ?_ | with_reducible refine wE_lc2 ?_
  | with_reducible refine wI_seq ?_ | with_reducible refine wI_rng ?_ | with_reducible refine wI_rng2 ?_ | with_reducible refine wI_zip2 ?_ | with_reducible refine wI_zip3 ?_)
set_option hygiene false in
local macro_rules | `(tactic| fail "x") => `(tactic| first | ((with_reducible apply exB); exact rfl) | ((with_reducible apply exVf); exact rfl; exact rfl) | ((with_reducible apply exVo); exact rfl; exact rfl) | ((with_reducible apply exO); exact rfl) | ((with_reducible apply exU); exact rfl) | ((with_reducible refine fun hk => ?_); cases hk) | with_reducible refine fun hk => ?_)
local macro_rules | `(tactic| fail "c") => `(tactic| first
  | ((with_reducible apply call_whole); assumption; exact rfl)
  | ((with_reducible apply call_within); assumption; exact rfl)
  | ((with_reducible apply call_rising); assumption; exact rfl)
  | ((with_reducible apply call_system); assumption; exact rfl)
  | ((with_reducible apply call_checkSy); assumption; exact rfl; assumption))
local macro_rules | `(tactic| fail "go") => `(tactic| repeat' (first | fail "w" | fail "x" | fail "c"))
local macro_rules | `(tactic| fail "gs") => `(tactic| repeat' (first | fail "v" | fail "x" | fail "c"))
theorem bad_system_ok {Fs : Nat → Fn} {e : E} {i j : Nat} (he : Numb Fs e 10) (ht : TakeOk (Fs i)) (hp : PickOk (Fs j)) : BadSOk ⟨false, 2, fnRun Fs 12 (Bsys e i j)⟩ := by
  refine ⟨rfl, rfl, fun g s hg hs => fnRun_go (sl := [some (.gl 0), some (.dat s.enc), none, none, none, none, none, none, none, none, none, none]) rfl ?_⟩
  unfold Bsys
  have hn1 := hs.l1
  have hn8 := hs.l8
  fail "go"
  refine call_take ht rfl hg ⟨by rw [List.length_map]; omega, by rw [List.length_map]; omega⟩ fun at_ g1 hat hg1 => ?_
  rw [List.length_map] at hat
  have hat' : at_ < s.ss.length := by omega
  obtain ⟨⟨k, q⟩, eq, enx⟩ := s.nx_at hat'
  obtain ⟨hkc, hq⟩ := hs.ss _ (List.mem_of_getElem? eq)
  dsimp only at hkc hq
  have hq0 : 0 < q.length := List.length_pos_iff.mpr hq.1
  fail "go"
  refine exO (op_idxT (atD_nat (st_at eq))) ?_
  fail "gs"
  refine wSs_at (r' := Ast s at_ k q none none none g1) rfl ?_
  refine wSs_cut (P1 s at_ k q 20) ?_ ?_
  · fail "go"
    refine exO (op_idxT (atD_int (i := 0) rfl (getD_nT hq0))) ?_
    fail "go"
    refine exO (op_idxT (atD_int (i := 0) rfl (getD_nT hq0))) ?_
    fail "go"
    refine he _ q _ _ hq.1 rfl fun z => ?_
    fail "go"
    refine ⟨_, g1, ?_, ?_, hg1, rfl⟩
    · intro x hx
      simp only [List.mem_cons, List.mem_nil_iff, or_false] at hx
      rcases hx with rfl | rfl | rfl | rfl | rfl | rfl | rfl | rfl | rfl | rfl | rfl | rfl | rfl | rfl | rfl | rfl | rfl
      all_goals try (first | rfl | (simp [stateB, withinB, risingB, risingL, truth, PyData.truthy, nT]; done) | (simp [stateB, withinB, risingB, risingL, truth, PyData.truthy, nT]; intros; omega))
    · simp
  rintro _ ⟨L, g2, hL, hl, hg2, rfl⟩
  refine wSs_cut (P1 s at_ k q 30) ?_ ?_
  · fail "go"
    refine comp_map (fun x => [.tuple [.int k, .tuple ((q.map fun (n : Nat) => PyData.int (n : Int)) ++ [x])]]) (fun r => ∃ o11, r = Ast s at_ k q (some (.own (.list L))) none o11 g2) ?_
    fail "go"
    refine exO (op_idxT (atD_int (i := q.length - 1) (by rw [List.length_map]; omega) (getD_nT (by omega)))) ?_
    fail "go"
    refine ⟨rfl, rfl, ⟨none, rfl⟩, ?_, ?_, ?_⟩
    · rintro x hx _ ⟨o11, rfl⟩
      refine ⟨_, rfl, elt1_wp ?_⟩
      fail "go"
      refine exO (op_addT (lim_of (by rw [List.length_append, List.length_map]; have := hq.len; simp; omega))) ?_
      fail "go"
      exact ⟨rfl, _, rfl⟩
    · exact lim_of (Nat.le_trans (flat_len (m := 1) _ fun _ _ => Nat.le_refl 1) (by simp))
    · rintro _ ⟨o11, rfl⟩
      have hfl := flat_len (f := fun x => [PyData.tuple [.int k, .tuple ((q.map fun (n : Nat) => PyData.int (n : Int)) ++ [x])]]) (m := 1) [PyData.int (s.ss.map stD).length, .str "0", .none, .int (q.getD (q.length - 1) 0 : Nat), .int (-1), .tuple [.int 0]] fun _ _ => Nat.le_refl 1
      simp only [List.length_cons, List.length_nil] at hfl
      fail "go"
      refine exVo (op_of rfl (f_addL (lim_of (Nat.le_trans (Nat.add_le_add hl hfl) (by decide))))) rfl ?_
      refine ⟨_, rfl, _, _, ?_, ?_, hg2, rfl⟩
      · intro x hx
        rcases List.mem_append.mp hx with h | h
        · exact hL x h
        · obtain ⟨y, hy, h⟩ := List.mem_flatMap.mp h
          rw [List.mem_singleton.mp h]
          show (withinB (.int k) 0 ((s.c : Int) - 1) && (risingB s.ss.length (.tuple ((q.map fun (n : Nat) => PyData.int (n : Int)) ++ [y])) && truth (.tuple ((q.map fun (n : Nat) => PyData.int (n : Int)) ++ [y])))) = false
          have : withinB y ((lastN q : Int) + 1) ((s.ss.length : Int) - 1) = false := by
            simp only [List.mem_cons, List.mem_nil_iff, or_false] at hy
            rcases hy with rfl | rfl | rfl | rfl | rfl | rfl
            all_goals try rfl
            all_goals (simp [withinB, lastN_eq hq.1]; try omega)
          rw [rise_bad hq this, Bool.false_and, Bool.and_false]
      · rw [List.length_append]; exact Nat.le_trans (Nat.add_le_add hl hfl) (by decide)
  clear hL hl L hg2 g2
  rintro _ ⟨L, g2, hL, hl, hg2, rfl⟩
  refine wSs_cut (P1 s at_ k q 31) ?_ ?_
  · fail "go"
    · simp only [tb, decide_eq_true_eq, List.length_map] at hk
      have hq1 : 1 < q.length := by omega
      have h01 := rise_two hq hq1
      refine exO (op_idxT (atD_int (i := 1) rfl (getD_nT hq1))) ?_
      fail "go"
      refine exO (op_idxT (atD_int (i := 0) rfl (getD_nT hq0))) ?_
      fail "go"
      refine exMo rfl rfl rfl (mu_app (Nat.lt_of_le_of_lt hl (by decide))) ?_
      fail "go"
      refine ⟨_, g2, ?_, ?_, hg2, rfl⟩
      · intro x hx
        rcases List.mem_append.mp hx with h | h
        · exact hL x h
        · rw [List.mem_singleton.mp h]
          show (withinB (.int k) 0 ((s.c : Int) - 1) && (risingB s.ss.length (.tuple [.int (q.getD 1 0 : Nat), .int (q.getD 0 0 : Nat)]) && _)) = false
          rw [rise_swap h01, Bool.false_and, Bool.and_false]
      · rw [List.length_append]; exact Nat.add_le_add_right hl 1
    · exact ⟨_, g2, hL, Nat.le_succ_of_le hl, hg2, rfl⟩
  clear hL hl L hg2 g2
  rintro _ ⟨L, g2, hL, hl, hg2, rfl⟩
  have hdN : ∀ p : List Nat, (nT p).depth = 1 := fun p => by
    show PyData.depthAll _ + 1 = 1
    rw [depthI p]
  have hpN : ∀ p : List Nat, PyData.plain (nT p) = true := fun p => plainN p
  refine wSs_cut (P1 s at_ k q 32) ?_ ?_
  · fail "go"
    refine exO (op_of rfl (f_eq_of (hpN q) rfl (Nat.le_trans (Nat.min_le_left _ _) (by rw [hdN]; decide)))) ?_
    fail "go"
    · refine exMo rfl rfl rfl (mu_app (Nat.lt_of_le_of_lt hl (by decide))) ?_
      fail "go"
      refine ⟨_, g2, ?_, ?_, hg2, rfl⟩
      · intro x hx
        rcases List.mem_append.mp hx with h | h
        · exact hL x h
        · rw [List.mem_singleton.mp h]
          simp [stateB, withinB, risingB, risingL]
      · rw [List.length_append]; exact Nat.add_le_add_right hl 1
    · exact ⟨_, g2, hL, Nat.le_succ_of_le hl, hg2, rfl⟩
  clear hL hl L hg2 g2
  rintro _ ⟨L, g2, hL, hl, hg2, rfl⟩
  have hsl : (s.ss.map stD).length = s.ss.length := List.length_map _
  have hcut : cutD (s.ss.map stD) none (some (at_ : Int)) = (s.ss.map stD).take at_ := cut_lo (by omega)
  have hcut2 : cutD (s.ss.map stD) (some ((at_ : Int) + 1)) none = (s.ss.map stD).drop (at_ + 1) := cut_hi (by omega) (by omega)
  have hcl : ∀ x : D, ((s.ss.map stD).take at_ ++ [x] ++ (s.ss.map stD).drop (at_ + 1)).length = s.ss.length := by
    intro x
    rw [List.length_append, List.length_append, List.length_take, List.length_drop, hsl]
    simp
    omega
  refine wSs_cut (P2 s at_ k q 0 40) ?_ ?_
  · fail "go"
    refine comp_map (fun x => [.tuple [.int s.c, nT s.st, .tuple ((s.ss.map stD).take at_ ++ [x] ++ (s.ss.map stD).drop (at_ + 1))]]) (fun r => ∃ o11, r = Ast s at_ k q (some (.lck (.list L))) none o11 g2) ?_
    fail "go"
    refine ⟨rfl, rfl, ⟨none, rfl⟩, ?_, ?_, ?_⟩
    · rintro x hx _ ⟨o11, rfl⟩
      refine ⟨_, rfl, elt1_wp ?_⟩
      fail "go"
      rw [hcut]
      refine exO (op_addT (lim_of (by rw [List.length_append, List.length_take]; simp; omega))) ?_
      fail "go"
      rw [hcut2]
      refine exO (op_addT (lim_of (by have := hcl x; simp only [List.length_cons, List.length_nil] at this ⊢; rw [this]; omega))) ?_
      fail "go"
      exact ⟨rfl, _, rfl⟩
    · exact lim_of (Nat.le_trans (flat_len (m := 1) _ fun _ _ => Nat.le_refl 1) (by show L.length * 1 ≤ _; omega))
    · rintro _ ⟨o11, rfl⟩
      refine ⟨_, rfl, ?_⟩
      fail "go"
      refine ⟨_, _, g2, ?_, ⟨?_, ?_, ?_⟩, hg2, rfl⟩
      · intro x hx
        obtain ⟨y, hy, h⟩ := List.mem_flatMap.mp hx
        rw [List.mem_singleton.mp h]
        refine sys_state (x := y) (by simp) ?_
        rw [hcl]
        exact hL y hy
      · exact Nat.zero_le _
      · exact Nat.le_trans (flat_len (m := 1) _ fun _ _ => Nat.le_refl 1) (by show L.length * 1 ≤ _; omega)
      · exact jk_own
  clear hL hl L hg2 g2
  rintro _ ⟨L, o4, g2, hL, ⟨h0, hl, j4⟩, hg2, rfl⟩
  have hst0 : 0 < s.st.length := List.length_pos_iff.mpr hs.st.1
  refine wSs_cut (P2 s at_ k q 19 60) ?_ ?_
  · fail "go"
    refine exO (op_idxT (atD_int (i := 0) rfl (getD_nT hst0))) ?_
    fail "go"
    refine exO (op_idxT (atD_int (i := 0) rfl (getD_nT hst0))) ?_
    fail "go"
    refine exO (op_of rfl (f_mulN (by decide) (by decide) (by omega) (by omega))) ?_
    fail "go"
    refine exO (op_addT (lim_of (by rw [List.length_append, repD_len]; simp; omega))) ?_
    fail "go"
    refine exVo (op_of rfl (f_addL (lim_of (by simp; omega)))) rfl ?_
    refine ⟨_, rfl, ?_⟩
    fail "go"
    refine ⟨_, o4, g2, ?_, ⟨?_, ?_, j4⟩, hg2, rfl⟩
    · intro x hx
      rcases List.mem_append.mp hx with h | h
      · exact hL x h
      · clear hx
        simp only [List.mem_cons, List.mem_nil_iff, or_false] at h
        rcases h with rfl | rfl | rfl | rfl | rfl | rfl | rfl | rfl | rfl | rfl | rfl | rfl | rfl | rfl | rfl | rfl | rfl | rfl | rfl
        all_goals try (first | rfl | (simp [sysB, withinB, risingB, risingL, truth, PyData.truthy, nT]; done) | (simp [sysB, withinB, risingB, risingL, truth, PyData.truthy, nT, repD_len]; intros; omega))
    · simp
    · simp; omega
  clear hL hl L hg2 g2 j4 o4 h0
  rintro _ ⟨L, o4, g2, hL, ⟨h0, hl, j4⟩, hg2, rfl⟩
  refine wSs_cut (P2 s at_ k q 19 80) ?_ ?_
  · fail "go"
    refine comp_map (fun x => [.tuple [.int s.c, .tuple ((s.st.map fun (n : Nat) => PyData.int (n : Int)) ++ [x]), .tuple (s.ss.map stD)]]) (fun r => ∃ o11, r = Ast s at_ k q o4 (some (.own (.list L))) o11 g2) ?_
    fail "go"
    refine exO (op_idxT (atD_int (i := s.st.length - 1) (by rw [List.length_map]; omega) (getD_nT (by omega)))) ?_
    fail "go"
    refine ⟨rfl, rfl, ⟨none, rfl⟩, ?_, ?_, ?_⟩
    · rintro x hx _ ⟨o11, rfl⟩
      refine ⟨_, rfl, elt1_wp ?_⟩
      fail "go"
      refine exO (op_addT (lim_of (by rw [List.length_append, List.length_map]; have := hs.st.len; simp; omega))) ?_
      fail "go"
      exact ⟨rfl, _, rfl⟩
    · exact lim_of (Nat.le_trans (flat_len (m := 1) _ fun _ _ => Nat.le_refl 1) (by simp))
    · rintro _ ⟨o11, rfl⟩
      have hf1 := flat_len (f := fun x => [PyData.tuple [.int s.c, .tuple ((s.st.map fun (n : Nat) => PyData.int (n : Int)) ++ [x]), .tuple (s.ss.map stD)]]) (m := 1) [PyData.int (s.ss.map stD).length, .str "0", .none, .int (s.st.getD (s.st.length - 1) 0 : Nat), .int (-1), .tuple [.int 0]] fun _ _ => Nat.le_refl 1
      have hb1 : ∀ x ∈ ([PyData.int (s.ss.map stD).length, .str "0", .none, .int (s.st.getD (s.st.length - 1) 0 : Nat), .int (-1), .tuple [.int 0]].flatMap fun x => [PyData.tuple [.int s.c, .tuple ((s.st.map fun (n : Nat) => PyData.int (n : Int)) ++ [x]), .tuple (s.ss.map stD)]]), sysB x = false := by
        intro x hx
        obtain ⟨y, hy, h⟩ := List.mem_flatMap.mp hx
        rw [List.mem_singleton.mp h]
        refine sys_start ?_
        rw [hsl] at hy ⊢
        rw [start_bad hs.st hy, Bool.false_and]
      simp only [List.length_cons, List.length_nil] at hf1
      fail "go"
      refine exO (op_of rfl (f_addL (lim_of (Nat.le_trans (Nat.add_le_add hl hf1) (by decide))))) ?_
      fail "go"
      refine wp_at (r' := Ast s at_ k q o4 (some (.own (.list L))) none g2) rfl ?_
      refine comp_map (fun x => [.tuple [.int s.c, .tuple [x], .tuple (s.ss.map stD)]]) (fun r => ∃ o11, r = Ast s at_ k q o4 (some (.own (.list L))) o11 g2) ?_
      fail "go"
      refine ⟨rfl, rfl, ⟨none, rfl⟩, ?_, ?_, ?_⟩
      · rintro x hx _ ⟨o11, rfl⟩
        refine ⟨_, rfl, elt1_wp ?_⟩
        fail "go"
        exact ⟨rfl, _, rfl⟩
      · exact lim_of (Nat.le_trans (flat_len (m := 1) _ fun _ _ => Nat.le_refl 1) (by simp))
      · rintro _ ⟨o11, rfl⟩
        have hf2 := flat_len (f := fun x => [PyData.tuple [.int s.c, .tuple [x], .tuple (s.ss.map stD)]]) (m := 1) [PyData.str "0", .none, .tuple [.int 0]] fun _ _ => Nat.le_refl 1
        have hb2 : ∀ x ∈ ([PyData.str "0", .none, .tuple [.int 0]].flatMap fun x => [PyData.tuple [.int s.c, .tuple [x], .tuple (s.ss.map stD)]]), sysB x = false := by
          intro x hx
          obtain ⟨y, hy, h⟩ := List.mem_flatMap.mp hx
          rw [List.mem_singleton.mp h]
          refine sys_start ?_
          rw [alone_bad hy, Bool.false_and]
        simp only [List.length_cons, List.length_nil] at hf2
        fail "go"
        refine exVo (op_of rfl (f_addL (lim_of (Nat.le_trans (Nat.add_le_add (by rw [List.length_append]; exact Nat.add_le_add hl hf1) hf2) (by decide))))) rfl ?_
        refine ⟨_, rfl, _, o4, g2, ?_, ⟨?_, ?_, j4⟩, hg2, rfl⟩
        · intro x hx
          rcases List.mem_append.mp hx with h | h
          · rcases List.mem_append.mp h with h | h
            · exact hL x h
            · exact hb1 x h
          · exact hb2 x h
        · rw [List.length_append, List.length_append]; omega
        · rw [List.length_append, List.length_append]
          exact Nat.le_trans (Nat.add_le_add (Nat.add_le_add hl hf1) hf2) (by decide)
  clear hL hl L hg2 g2 j4 o4 h0
  rintro _ ⟨L, o4, g2, hL, ⟨h0, hl, j4⟩, hg2, rfl⟩
  refine wSs_cut (P2 s at_ k q 19 81) ?_ ?_
  · fail "go"
    · simp only [tb, decide_eq_true_eq, List.length_map] at hk
      have hq1 : 1 < s.st.length := by omega
      have h01 := rise_two hs.st hq1
      refine exO (op_idxT (atD_int (i := 1) rfl (getD_nT hq1))) ?_
      fail "go"
      refine exO (op_idxT (atD_int (i := 0) rfl (getD_nT hst0))) ?_
      fail "go"
      refine exMo rfl rfl rfl (mu_app (Nat.lt_of_le_of_lt hl (by decide))) ?_
      fail "go"
      refine ⟨_, o4, g2, ?_, ⟨?_, ?_, j4⟩, hg2, rfl⟩
      · intro x hx
        rcases List.mem_append.mp hx with h | h
        · exact hL x h
        · rw [List.mem_singleton.mp h]
          refine sys_start ?_
          have := rise_swap (m := (s.ss.map stD).length) h01
          rw [this, Bool.false_and]
      · rw [List.length_append]; omega
      · rw [List.length_append]; exact Nat.add_le_add_right hl 1
    · exact ⟨_, o4, g2, hL, ⟨h0, Nat.le_succ_of_le hl, j4⟩, hg2, rfl⟩
  clear hL hl L hg2 g2 j4 o4 h0
  rintro _ ⟨L, o4, g2, hL, ⟨h0, hl, j4⟩, hg2, rfl⟩
  refine wSs_cut (P2 s at_ k q 19 83) ?_ ?_
  · fail "go"
    · refine exVo (op_of rfl (f_addL (lim_of (Nat.le_trans (Nat.add_le_add_right hl 2) (by decide))))) rfl ?_
      refine ⟨_, rfl, ?_⟩
      fail "go"
      refine ⟨_, o4, g2, ?_, ⟨?_, ?_, j4⟩, hg2, rfl⟩
      · intro x hx
        rcases List.mem_append.mp hx with h | h
        · exact hL x h
        · clear hx
          simp only [List.mem_cons, List.mem_nil_iff, or_false] at h
          rcases h with rfl | rfl
          · refine sys_start ?_
            have := rise_swap (m := (s.ss.map stD).length) (b0 := 0) (b1 := 1) (by decide)
            rw [show PyData.int 1 = PyData.int ((1 : Nat) : Int) from rfl, show PyData.int 0 = PyData.int ((0 : Nat) : Int) from rfl, this, Bool.false_and]
          · refine sys_start ?_
            simp [risingB, risingL]
      · rw [List.length_append]; omega
      · rw [List.length_append]; exact Nat.add_le_add_right hl 2
    · exact ⟨_, o4, g2, hL, ⟨h0, Nat.le_trans hl (by decide), j4⟩, hg2, rfl⟩
  clear hL hl L hg2 g2 j4 o4 h0
  rintro _ ⟨L, o4, g2, hL, ⟨h0, hl, j4⟩, hg2, rfl⟩
  fail "go"
  refine call_pick hp rfl hg2 ⟨by omega, by omega⟩ ?_
  intro x g3 hx hg3
  exact ⟨⟨x, rfl, hL x hx⟩, hg3⟩
end Mp
set_option Elab.async false
set_option linter.all false
set_option maxRecDepth 100000
set_option maxHeartbeats 1000000
/-! Lp7: what is refused (plain Lean) -/
namespace Mp
open PySem
/-- a pair of systems, of which one is none, or that are unlike -/
structure PairErr (F : Fn) : Prop where
  pu : F.pu = true
  n : F.n = 2
  bad : ∀ x y, (sysB x = false ∨ sysB y = false) → Exc (F.run [.dat x, .dat y] []) 1
  unlike : ∀ (s t : Sy), s.Ok → t.Ok → s.c ≠ t.c → Exc (F.run [.dat s.enc, .dat t.enc] []) 3
/-- refused by the first system that is none -/
structure QBad (F : Fn) : Prop where
  pu : F.pu = true
  n : F.n = 1
  bad : ∀ f m w ss, ss.all sysB = false → Exc (F.run [.dat (.tuple [f, m, .tuple ss, w])] []) 1
section
variable {F : Fn} {os : List Opd} {r : Rho} {K : SV → Rho → Prop} {X : Nat → Rho → Prop} {x y : D}
theorem call_pairBad (h : PairErr F) (ho : datsO os = some [x, y]) (hb : sysB x = false ∨ sysB y = false) (k : X 1 r) : (doCall F os).wp r K X := call_exc (ds := [x, y]) h.pu h.n ho (h.bad _ _ hb) k
theorem call_pairUn {s t : Sy} (h : PairErr F) (ho : datsO os = some [s.enc, t.enc]) (hs : s.Ok) (ht : t.Ok) (hb : s.c ≠ t.c) (k : X 3 r) : (doCall F os).wp r K X := call_exc (ds := [s.enc, t.enc]) h.pu h.n ho (h.unlike _ _ hs ht hb) k
theorem call_QBad {f m w : D} {ss : List D} (h : QBad F) (ho : datsO os = some [.tuple [f, m, .tuple ss, w]]) (hb : ss.all sysB = false) (k : X 1 r) : (doCall F os).wp r K X := call_exc (ds := [.tuple [f, m, .tuple ss, w]]) h.pu h.n ho (h.bad _ _ _ _ hb) k
theorem call_checkSx (h : CheckSOk F) (ho : datsO os = some [x]) (hs : sysB x = true) (k : K (.dat .none) r) : (doCall F os).wp r K X := call_ret (ds := [x]) h.pu h.n ho (h.ok _ hs) rfl k
end
local macro_rules | `(tactic| fail "w") => `(tactic| first
  | with_reducible refine wSs_cons ?_ | with_reducible refine wSs_nil ?_ | with_reducible refine wS_asg ?_ | with_reducible refine wS_ret ?_ | with_reducible refine wS_ite ?_ | with_reducible refine wS_ex ?_ | with_reducible refine wS_unp ?_ | with_reducible refine wS_for ?_
  | ((with_reducible refine wS_mutO ?_ ?_); exact rfl) | ((with_reducible apply exMg); exact rfl; exact rfl; exact rfl; exact rfl; exact rfl) | ((with_reducible apply exMo); exact rfl; exact rfl; exact rfl; exact rfl)
  | with_reducible refine wS_raise ?_ | with_reducible refine wS_retN ?_ | with_reducible refine wS_par ?_ | with_reducible refine wS_pass ?_ | with_reducible refine wS_tryC ?_
  | with_reducible refine wE_k ?_ | ((with_reducible apply wE_nm); exact rfl) | ((with_reducible apply wE_fz); exact rfl) | ((with_reducible apply wE_fzO); exact rfl) | with_reducible refine wE_op ?_ | with_reducible refine wE_glob ?_ | with_reducible refine wE_call ?_ | with_reducible refine wE_tup ?_ | with_reducible refine wE_lst ?_
  | with_reducible refine wE_chain ?_ | with_reducible refine wE_and ?_ | with_reducible refine wE_or ?_ | with_reducible refine wE_not ?_ | with_reducible refine wE_ife ?_ | with_reducible refine wE_asI ?_
  | with_reducible refine wEs_nil ?_ | with_reducible refine wEs_cons ?_
  | with_reducible refine wT_op ?_ | with_reducible refine wT_lst ?_ | with_reducible refine wT_call ?_ | with_reducible refine wT_lc ?_ | with_reducible refine wT_lcIf ?_ | with_reducible refine wT_lc2 ?_ | ((with_reducible apply wT_of); exact rfl)
  | with_reducible refine wE_lc ?_ | with_reducible refine wE_lcIf ?_ | with_reducible refine wE_lc2 ?_
  | with_reducible refine wI_seq ?_ | with_reducible refine wI_rng ?_ | with_reducible refine wI_rng2 ?_ | with_reducible refine wI_zip2 ?_ | with_reducible refine wI_zip3 ?_)
local macro_rules | `(tactic| fail "v") => `(tactic| first
  | with_reducible refine wSs_nil ?_ | with_reducible refine wS_asg ?_ | with_reducible refine wS_ret ?_ | with_reducible refine wS_ite ?_ | with_reducible refine wS_ex ?_ | with_reducible refine wS_unp ?_ | with_reducible refine wS_for ?_
  | ((with_reducible refine wS_mutO ?_ ?_); exact rfl) | ((with_reducible apply exMg); exact rfl; exact rfl; exact rfl; exact rfl; exact rfl) | ((with_reducible apply exMo); exact rfl; exact rfl; exact rfl; exact rfl)
  | with_reducible refine wS_raise ?_ | with_reducible refine wS_retN ?_ | with_reducible refine wS_par ?_ | with_reducible refine wS_pass ?_ | with_reducible refine wS_tryC ?_
  | with_reducible refine wE_k ?_ | ((with_reducible apply wE_nm); exact rfl) | ((with_reducible apply wE_fz); exact rfl) | ((with_reducible apply wE_fzO); exact rfl) | with_reducible refine wE_op ?_ | with_reducible refine wE_glob ?_ | with_reducible refine wE_call ?_ | with_reducible refine wE_tup ?_ | with_reducible refine wE_lst ?_
  | with_reducible refine wE_chain ?_ | with_reducible refine wE_and ?_ | with_reducible refine wE_or ?_ | with_reducible refine wE_not ?_ | with_reducible refine wE_ife ?_ | with_reducible refine wE_asI ?_
  | with_reducible refine wEs_nil ?_ | with_reducible refine wEs_cons ?_
  | with_reducible refine wT_op ?_ | with_reducible refine wT_lst ?_ | with_reducible refine wT_call ?_ | with_reducible refine wT_lc ?_ | with_reducible refine wT_lcIf ?_ | with_reducible refine wT_lc2 ?_ | ((with_reducible apply wT_of); exact rfl)
  | with_reducible refine wE_lc ?_ | with_reducible refine wE_lcIf ?_ | with_reducible refine wE_lc2 ?_
  | with_reducible refine wI_seq ?_ | with_reducible refine wI_rng ?_ | with_reducible refine wI_rng2 ?_ | with_reducible refine wI_zip2 ?_ | with_reducible refine wI_zip3 ?_)
set_option hygiene false in
local macro_rules | `(tactic| fail "x") => `(tactic| first | ((with_reducible apply exB); exact rfl) | ((with_reducible apply exVf); exact rfl; exact rfl) | ((with_reducible apply exVo); exact rfl; exact rfl) | ((with_reducible apply exO); exact rfl) | ((with_reducible apply exU); exact rfl) | ((with_reducible refine fun hk => ?_); cases hk) | with_reducible refine fun hk => ?_)
local macro_rules | `(tactic| fail "c") => `(tactic| first
  | ((with_reducible apply call_whole); assumption; exact rfl)
  | ((with_reducible apply call_within); assumption; exact rfl)
  | ((with_reducible apply call_rising); assumption; exact rfl)
  | ((with_reducible apply call_system); assumption; exact rfl)
  | ((with_reducible apply call_checkSy); assumption; exact rfl; assumption))
local macro_rules | `(tactic| fail "go") => `(tactic| repeat' (first | fail "w" | fail "x" | fail "c"))
local macro_rules | `(tactic| fail "gs") => `(tactic| repeat' (first | fail "v" | fail "x" | fail "c"))
theorem check_question_bad {Fs : Nat → Fn} {i j k : Nat} (hc : CheckSOk (Fs i)) : QBad ⟨true, 1, fnRun Fs 6 (B_check_question i j k)⟩ := by
  refine ⟨rfl, rfl, fun f m w ss hb => fnRun_go (sl := [some (.dat (.tuple [f, m, .tuple ss, w])), none, none, none, none, none]) rfl ?_⟩
  unfold B_check_question
  fail "go"
  refine ⟨fun j r => ∃ o, Jk o ∧ (ss.drop j).all sysB = false ∧ r = ⟨[some (.dat (.tuple [f, m, .tuple ss, w])), o, some (.dat f), some (.dat m), some (.dat (.tuple ss)), some (.dat w)], []⟩, ⟨none, trivial, hb, rfl⟩, ?_, ?_⟩
  · rintro j x _ e ⟨o, ho, hb, rfl⟩
    replace e : ss[j]? = some x := e
    rw [drop_cons e, List.all_cons] at hb
    refine ⟨_, wr_jk ho, ?_⟩
    cases hx : sysB x with
    | false =>
      fail "go"
      exact call_checkSbad hc rfl hx rfl
    | true =>
      rw [hx, Bool.true_and] at hb
      fail "go"
      refine call_checkSx hc rfl hx ?_
      fail "go"
      exact ⟨_, jk_dat, hb, rfl⟩
  · rintro _ ⟨o, ho, hb, rfl⟩
    exfalso
    dsimp only at hb
    rw [List.drop_length] at hb
    cases hb
theorem starts_bad {Fs : Nat → Fn} {i j k : Nat} (hc : QBad (Fs i)) : QBad ⟨true, 1, fnRun Fs 1 (B_starts i j k)⟩ := by
  refine ⟨rfl, rfl, fun f m w ss hb => fnRun_go (sl := [some (.dat (.tuple [f, m, .tuple ss, w]))]) rfl ?_⟩
  unfold B_starts
  fail "go"
  exact call_QBad hc rfl hb rfl
theorem looks_err {Fs : Nat → Fn} {i j : Nat} (hc : CheckSOk (Fs i)) : PairErr ⟨true, 2, fnRun Fs 2 (B_looks_question i j)⟩ := by
  refine ⟨rfl, rfl, fun x y hb => fnRun_go (sl := [some (.dat x), some (.dat y)]) rfl ?_, fun s t hs ht hb => fnRun_go (sl := [some (.dat s.enc), some (.dat t.enc)]) rfl ?_⟩
  · unfold B_looks_question
    cases hx : sysB x with
    | false =>
      fail "go"
      exact call_checkSbad hc rfl hx rfl
    | true =>
      have hy : sysB y = false := by rcases hb with h | h; rw [hx] at h; cases h; exact h
      fail "go"
      refine call_checkSx hc rfl hx ?_
      fail "go"
      exact call_checkSbad hc rfl hy rfl
  · unfold B_looks_question
    fail "go"
    · rfl
    · exfalso
      have : PyData.eqv (.int (s.c : Int)) (.int (t.c : Int)) = true := by
        simp only [tb, Bool.not_eq_false'] at hk; exact hk
      rw [eqvI, decide_eq_true_eq] at this
      omega
theorem shown_err {Fs : Nat → Fn} {i j : Nat} (hc : PairErr (Fs j)) : PairErr ⟨true, 2, fnRun Fs 2 (B_shown_by i j)⟩ := by
  refine ⟨rfl, rfl, fun x y hb => fnRun_go (sl := [some (.dat x), some (.dat y)]) rfl ?_, fun s t hs ht hb => fnRun_go (sl := [some (.dat s.enc), some (.dat t.enc)]) rfl ?_⟩
  · unfold B_shown_by
    fail "go"
    exact call_pairBad hc rfl hb rfl
  · unfold B_shown_by
    fail "go"
    exact call_pairUn hc rfl hs ht hb rfl
theorem equal_err {Fs : Nat → Fn} {i : Nat} (hc : PairErr (Fs i)) : PairErr ⟨true, 2, fnRun Fs 2 (B_equal_looks i)⟩ := by
  refine ⟨rfl, rfl, fun x y hb => fnRun_go (sl := [some (.dat x), some (.dat y)]) rfl ?_, fun s t hs ht hb => fnRun_go (sl := [some (.dat s.enc), some (.dat t.enc)]) rfl ?_⟩
  · unfold B_equal_looks
    fail "go"
    exact call_pairBad hc rfl hb rfl
  · unfold B_equal_looks
    fail "go"
    exact call_pairUn hc rfl hs ht hb rfl
end Mp
set_option Elab.async false
set_option linter.all false
set_option maxRecDepth 100000
set_option maxHeartbeats 1000000
/-! Lp8: watchers (plain Lean) -/
namespace Mp
open PySem
def prodI (cs : List D) : Int := cs.foldl (fun a c => a * toI c) 1
def rowB (n : Int) (many : Nat) : D → Bool
  | .tuple r => decide ((r.length : Int) = n) && r.all (fun x => withinB x (-1) (many - 1))
  | _ => false
def watB : D → Bool
  | .tuple [.tuple cs, .tuple ss] => (decide ((1 : Int) ≤ cs.length) && decide ((cs.length : Int) ≤ 3)) && cs.all (fun x => withinB x 1 4) && (decide ((1 : Int) ≤ ss.length) && decide ((ss.length : Int) ≤ 6)) && ss.all (rowB (prodI cs) ss.length)
  | _ => false
structure TimesOk (F : Fn) : Prop where
  pu : F.pu = true
  n : F.n = 1
  run : ∀ cs : List D, (∀ c ∈ cs, withinB c (-1000) 1000 = true) → RetV (F.run [.dat (.tuple cs)] []) (.dat (.int (prodI cs)))
structure WatcherOk (F : Fn) : Prop where
  pu : F.pu = true
  n : F.n = 1
  run : ∀ x, RetV (F.run [.dat x] []) (.dat (.bool (watB x)))
structure CheckWOk (F : Fn) : Prop where
  pu : F.pu = true
  n : F.n = 1
  ok : ∀ x, watB x = true → RetV (F.run [.dat x] []) (.dat .none)
  bad : ∀ x, watB x = false → Exc (F.run [.dat x] []) 2
theorem within_wide {x : D} {a b a' b' : Int} (h : withinB x a b = true) (h1 : a' ≤ a) (h2 : b ≤ b') : withinB x a' b' = true := by
  unfold withinB at h ⊢
  split at h
  · simp only [Bool.and_eq_true, decide_eq_true_eq] at h ⊢; omega
  · cases h
section
variable {F : Fn} {os : List Opd} {r : Rho} {K : SV → Rho → Prop} {X : Nat → Rho → Prop} {x y : D}
theorem call_watcher (h : WatcherOk F) (ho : datsO os = some [x]) (k : K (.dat (.bool (watB x))) r) : (doCall F os).wp r K X := call_ret (ds := [x]) h.pu h.n ho (h.run _) rfl k
theorem call_checkWx (h : CheckWOk F) (ho : datsO os = some [x]) (hs : watB x = true) (k : K (.dat .none) r) : (doCall F os).wp r K X := call_ret (ds := [x]) h.pu h.n ho (h.ok _ hs) rfl k
theorem call_checkWbad (h : CheckWOk F) (ho : datsO os = some [x]) (hs : watB x = false) (k : X 2 r) : (doCall F os).wp r K X := call_exc (ds := [x]) h.pu h.n ho (h.bad _ hs) k
theorem call_times {cs : List D} (h : TimesOk F) (ho : datsO os = some [.tuple cs]) (hs : ∀ c ∈ cs, withinB c (-1000) 1000 = true) (k : K (.dat (.int (prodI cs))) r) : (doCall F os).wp r K X := call_ret (ds := [.tuple cs]) h.pu h.n ho (h.run _ hs) rfl k
end
local macro_rules | `(tactic| fail "w") => `(tactic| first
  | with_reducible refine wSs_cons ?_ | with_reducible refine wSs_nil ?_ | with_reducible refine wS_asg ?_ | with_reducible refine wS_ret ?_ | with_reducible refine wS_ite ?_ | with_reducible refine wS_ex ?_ | with_reducible refine wS_unp ?_ | with_reducible refine wS_for ?_
  | ((with_reducible refine wS_mutO ?_ ?_); exact rfl) | ((with_reducible apply exMg); exact rfl; exact rfl; exact rfl; exact rfl; exact rfl) | ((with_reducible apply exMo); exact rfl; exact rfl; exact rfl; exact rfl)
  | with_reducible refine wS_raise ?_ | with_reducible refine wS_retN ?_ | with_reducible refine wS_par ?_ | with_reducible refine wS_pass ?_ | with_reducible refine wS_tryC ?_
  | with_reducible refine wE_k ?_ | ((with_reducible apply wE_nm); exact rfl) | ((with_reducible apply wE_fz); exact rfl) | ((with_reducible apply wE_fzO); exact rfl) | with_reducible refine wE_op ?_ | with_reducible refine wE_glob ?_ | with_reducible refine wE_call ?_ | with_reducible refine wE_tup ?_ | with_reducible refine wE_lst ?_
  | with_reducible refine wE_chain ?_ | with_reducible refine wE_and ?_ | with_reducible refine wE_or ?_ | with_reducible refine wE_not ?_ | with_reducible refine wE_ife ?_ | with_reducible refine wE_asI ?_
  | with_reducible refine wEs_nil ?_ | with_reducible refine wEs_cons ?_
  | with_reducible refine wT_op ?_ | with_reducible refine wT_lst ?_ | with_reducible refine wT_call ?_ | with_reducible refine wT_lc ?_ | with_reducible refine wT_lcIf ?_ | with_reducible refine wT_lc2 ?_ | ((with_reducible apply wT_of); exact rfl)
  | with_reducible refine wE_lc ?_ | with_reducible refine wE_lcIf ?_ | with_reducible refine wE_lc2 ?_
  | with_reducible refine wI_seq ?_ | with_reducible refine wI_rng ?_ | with_reducible refine wI_rng2 ?_ | with_reducible refine wI_zip2 ?_ | with_reducible refine wI_zip3 ?_)
local macro_rules | `(tactic| fail "v") => `(tactic| first
  | with_reducible refine wSs_nil ?_ | with_reducible refine wS_asg ?_ | with_reducible refine wS_ret ?_ | with_reducible refine wS_ite ?_ | with_reducible refine wS_ex ?_ | with_reducible refine wS_unp ?_ | with_reducible refine wS_for ?_
  | ((with_reducible refine wS_mutO ?_ ?_); exact rfl) | ((with_reducible apply exMg); exact rfl; exact rfl; exact rfl; exact rfl; exact rfl) | ((with_reducible apply exMo); exact rfl; exact rfl; exact rfl; exact rfl)
  | with_reducible refine wS_raise ?_ | with_reducible refine wS_retN ?_ | with_reducible refine wS_par ?_ | with_reducible refine wS_pass ?_ | with_reducible refine wS_tryC ?_
  | with_reducible refine wE_k ?_ | ((with_reducible apply wE_nm); exact rfl) | ((with_reducible apply wE_fz); exact rfl) | ((with_reducible apply wE_fzO); exact rfl) | with_reducible refine wE_op ?_ | with_reducible refine wE_glob ?_ | with_reducible refine wE_call ?_ | with_reducible refine wE_tup ?_ | with_reducible refine wE_lst ?_
  | with_reducible refine wE_chain ?_ | with_reducible refine wE_and ?_ | with_reducible refine wE_or ?_ | with_reducible refine wE_not ?_ | with_reducible refine wE_ife ?_ | with_reducible refine wE_asI ?_
  | with_reducible refine wEs_nil ?_ | with_reducible refine wEs_cons ?_
  | with_reducible refine wT_op ?_ | with_reducible refine wT_lst ?_ | with_reducible refine wT_call ?_ | with_reducible refine wT_lc ?_ | with_reducible refine wT_lcIf ?_ | with_reducible refine wT_lc2 ?_ | ((with_reducible apply wT_of); exact rfl)
  | with_reducible refine wE_lc ?_ | with_reducible refine wE_lcIf ?_ | with_reducible refine wE_lc2 ?_
  | with_reducible refine wI_seq ?_ | with_reducible refine wI_rng ?_ | with_reducible refine wI_rng2 ?_ | with_reducible refine wI_zip2 ?_ | with_reducible refine wI_zip3 ?_)
set_option hygiene false in
local macro_rules | `(tactic| fail "x") => `(tactic| first | ((with_reducible apply exB); exact rfl) | ((with_reducible apply exVf); exact rfl; exact rfl) | ((with_reducible apply exVo); exact rfl; exact rfl) | ((with_reducible apply exO); exact rfl) | ((with_reducible apply exU); exact rfl) | ((with_reducible refine fun hk => ?_); cases hk) | with_reducible refine fun hk => ?_)
local macro_rules | `(tactic| fail "c") => `(tactic| first
  | ((with_reducible apply call_whole); assumption; exact rfl)
  | ((with_reducible apply call_within); assumption; exact rfl)
  | ((with_reducible apply call_rising); assumption; exact rfl)
  | ((with_reducible apply call_system); assumption; exact rfl)
  | ((with_reducible apply call_checkSy); assumption; exact rfl; assumption))
local macro_rules | `(tactic| fail "go") => `(tactic| repeat' (first | fail "w" | fail "x" | fail "c"))
local macro_rules | `(tactic| fail "gs") => `(tactic| repeat' (first | fail "v" | fail "x" | fail "c"))
theorem times_ok {Fs : Nat → Fn} : TimesOk ⟨true, 1, fnRun Fs 3 B_how_many_tuples⟩ := by
  refine ⟨rfl, rfl, fun cs hc => fnRun_go (sl := [some (.dat (.tuple cs)), none, none]) rfl ?_⟩
  unfold B_how_many_tuples
  fail "go"
  refine ⟨fun j r => ∃ o, Jk o ∧ r = ⟨[some (.dat (.tuple cs)), some (.dat (.int (prodI (cs.take j)))), o], []⟩, ⟨none, trivial, rfl⟩, ?_, ?_⟩
  · rintro j x _ e ⟨o, ho, rfl⟩
    replace e : cs[j]? = some x := e
    have h1 := hc x (List.mem_of_getElem? e)
    refine ⟨_, wr_jk ho, ?_⟩
    cases x <;> try cases h1
    rename_i i
    simp only [withinB, Bool.and_eq_true, decide_eq_true_eq] at h1
    fail "go"
    refine exVf (op_of rfl (f_mulR (small_of (by omega) (by omega)))) rfl ?_
    fail "go"
    have : prodI (cs.take (j + 1)) = prodI (cs.take j) * i := by
      unfold prodI
      rw [List.take_add_one, e]
      simp [toI]
    exact ⟨_, jk_dat, by rw [this]; rfl⟩
  · rintro _ ⟨o, ho, rfl⟩
    dsimp only
    rw [List.take_length]
    fail "go"
    exact wS_mvD rfl rfl
theorem law_times_ok {Fs : Nat → Fn} : TimesOk ⟨true, 1, fnRun Fs 3 B_law_times⟩ := times_ok
theorem is_watcher_ok {Fs : Nat → Fn} {i j : Nat} {g0 g1 g2 : Str} (hw : WithinOk (Fs i)) (ht : TimesOk (Fs j)) : WatcherOk ⟨true, 1, fnRun Fs 6 (B_is_watcher i j g0 g1 g2)⟩ := by
  refine ⟨rfl, rfl, fun x => fnRun_go (sl := [some (.dat x), none, none, none, none, none]) rfl ?_⟩
  unfold B_is_watcher
  cases x
  case tuple xs =>
    match xs with
    | [] => fail "go"; all_goals simp [watB]
    | [a] => fail "go"; all_goals simp [watB]
    | a :: b :: c :: xs => fail "go"; all_goals simp [watB]
    | [a, b] =>
      cases a
      case tuple cs =>
        have hW : ∀ z : D, watB (.tuple [.tuple cs, z]) = ((decide ((1 : Int) ≤ cs.length) && decide ((cs.length : Int) ≤ 3)) && cs.all (fun x => withinB x 1 4) && (match z with | .tuple ss => (decide ((1 : Int) ≤ ss.length) && decide ((ss.length : Int) ≤ 6)) && ss.all (rowB (prodI cs) ss.length) | _ => false)) := by
          intro z
          cases z <;> simp [watB, Bool.and_assoc]
        fail "gs"
        refine wSs_cut (fun r => (decide ((1 : Int) ≤ cs.length) && decide ((cs.length : Int) ≤ 3)) = true ∧ r = ⟨[some (.dat (.tuple [.tuple cs, b])), none, none, none, none, none], []⟩) ?_ ?_
        · fail "go"
          · rename_i hk2
            simp only [tb, Bool.not_eq_true'] at hk
            rw [hW, hk]; simp
          · rename_i hk2
            simp only [tb, Bool.not_eq_false'] at hk
            rw [hk2, hk]
            exact ⟨rfl, rfl⟩
          · rw [hW, hk]; simp
        rintro _ ⟨hcl, rfl⟩
        rw [hW, hcl, Bool.true_and]
        refine wSs_cut (fun r => r = ⟨[some (.dat (.tuple [.tuple cs, b])), none, none, some (.dat (.tuple cs)), some (.dat b), none], []⟩) (by fail "go"; rfl) ?_
        rintro _ rfl
        refine wSs_cut (fun r => cs.all (fun x => withinB x 1 4) = true ∧ ∃ o, Jk o ∧ r = ⟨[some (.dat (.tuple [.tuple cs, b])), o, none, some (.dat (.tuple cs)), some (.dat b), none], []⟩) ?_ ?_
        · fail "go"
          refine ⟨fun j r => ∃ o, Jk o ∧ r = ⟨[some (.dat (.tuple [.tuple cs, b])), o, none, some (.dat (.tuple cs)), some (.dat b), none], []⟩ ∧ cs.all (fun x => withinB x 1 4) = (cs.drop j).all (fun x => withinB x 1 4), ⟨none, trivial, rfl, rfl⟩, ?_, ?_⟩
          · rintro j x _ e ⟨o, ho, rfl, h4⟩
            replace e : cs[j]? = some x := e
            rw [drop_cons e, List.all_cons] at h4
            refine ⟨_, wr_jk ho, ?_⟩
            fail "go"
            · simp only [tb, Bool.not_eq_true'] at hk
              rw [h4, hk]; rfl
            · simp only [tb, Bool.not_eq_false'] at hk
              exact ⟨_, jk_dat, rfl, by rw [h4, hk, Bool.true_and]⟩
          · rintro _ ⟨o, ho, rfl, h4⟩
            dsimp only at h4
            rw [List.drop_length] at h4
            exact ⟨h4, _, ho, rfl⟩
        rintro _ ⟨hca, o1, ho1, rfl⟩
        rw [hca, Bool.true_and]
        have hci : ∀ c ∈ cs, withinB c (-1000) 1000 = true := fun c hc => within_wide (List.all_eq_true.mp hca c hc) (by decide) (by decide)
        cases b
        case tuple ss =>
          dsimp only
          refine wSs_cut (fun r => (decide ((1 : Int) ≤ ss.length) && decide ((ss.length : Int) ≤ 6)) = true ∧ r = ⟨[some (.dat (.tuple [.tuple cs, .tuple ss])), o1, none, some (.dat (.tuple cs)), some (.dat (.tuple ss)), none], []⟩) ?_ ?_
          · fail "go"
            · rename_i hk2
              simp only [tb, Bool.not_eq_true'] at hk
              rw [hk]; simp
            · rename_i hk2
              simp only [tb, Bool.not_eq_false'] at hk
              rw [hk2, hk]
              exact ⟨rfl, rfl⟩
            · rw [hk]; simp
          rintro _ ⟨hsl, rfl⟩
          rw [hsl, Bool.true_and]
          fail "go"
          refine ⟨fun j r => ∃ o2 o5, Jk o2 ∧ Jk o5 ∧ r = ⟨[some (.dat (.tuple [.tuple cs, .tuple ss])), o1, o2, some (.dat (.tuple cs)), some (.dat (.tuple ss)), o5], []⟩ ∧ ss.all (rowB (prodI cs) ss.length) = (ss.drop j).all (rowB (prodI cs) ss.length), ⟨none, none, trivial, trivial, rfl, rfl⟩, ?_, ?_⟩
          · rintro j x _ e ⟨o2, o5, ho2, ho5, rfl, h4⟩
            replace e : ss[j]? = some x := e
            rw [drop_cons e, List.all_cons] at h4
            rw [h4]
            clear h4
            refine ⟨_, wr_jk ho2, ?_⟩
            cases x
            case tuple r =>
              have hR : rowB (prodI cs) ss.length (.tuple r) = (decide ((r.length : Int) = prodI cs) && r.all (fun x => withinB x (-1) (ss.length - 1))) := rfl
              rw [hR]
              fail "go"
              refine call_times ht rfl hci ?_
              fail "go"
              · simp only [tb, Bool.not_eq_true'] at hk
                rw [eqvI] at hk
                rw [hk]; rfl
              · simp only [tb, Bool.not_eq_false'] at hk
                rw [eqvI] at hk
                rw [hk, Bool.true_and]
                refine ⟨fun j2 r2 => ∃ o5, Jk o5 ∧ r2 = ⟨[some (.dat (.tuple [.tuple cs, .tuple ss])), o1, some (.dat (.tuple r)), some (.dat (.tuple cs)), some (.dat (.tuple ss)), o5], []⟩ ∧ r.all (fun x => withinB x (-1) (ss.length - 1)) = (r.drop j2).all (fun x => withinB x (-1) (ss.length - 1)), ⟨_, ho5, rfl, rfl⟩, ?_, ?_⟩
                · rintro j2 y _ e2 ⟨o5, ho5, rfl, h5⟩
                  replace e2 : r[j2]? = some y := e2
                  rw [drop_cons e2, List.all_cons] at h5
                  refine ⟨_, wr_jk (by exact ho5), ?_⟩
                  fail "go"
                  · simp only [tb, Bool.not_eq_true'] at hk
                    rw [h5, hk]; rfl
                  · simp only [tb, Bool.not_eq_false'] at hk
                    exact ⟨_, jk_dat, rfl, by rw [h5, hk, Bool.true_and]⟩
                · rintro _ ⟨o5, ho5, rfl, h5⟩
                  dsimp only at h5
                  rw [List.drop_length] at h5
                  fail "go"
                  exact ⟨_, _, jk_dat, ho5, rfl, by rw [h5]; rfl⟩
            all_goals fail "go"
            all_goals rfl
          · rintro _ ⟨o2, o5, ho2, ho5, rfl, h4⟩
            dsimp only at h4
            rw [List.drop_length] at h4
            rw [h4]
            fail "go"
            rfl
        all_goals fail "go"
        all_goals rfl
      all_goals fail "go"
      all_goals rfl
  all_goals fail "go"
  all_goals rfl
theorem check_watcher_ok {Fs : Nat → Fn} {i : Nat} (h : WatcherOk (Fs i)) : CheckWOk ⟨true, 1, fnRun Fs 1 (B_check_watcher i)⟩ := by
  refine ⟨rfl, rfl, fun x hx => fnRun_go (sl := [some (.dat x)]) rfl ?_, fun x hx => fnRun_go (sl := [some (.dat x)]) rfl ?_⟩
  · unfold B_check_watcher
    fail "go"
    refine call_watcher h rfl ?_
    rw [hx]
    fail "go"
    rfl
  · unfold B_check_watcher
    fail "go"
    refine call_watcher h rfl ?_
    rw [hx]
    fail "go"
    rfl
end Mp
set_option Elab.async false
set_option linter.all false
set_option maxRecDepth 100000
set_option maxHeartbeats 2000000
/-! Lp9: watchers that are drawn, spoilt watchers (plain Lean) -/
namespace Mp
open PySem
structure Wa where
  cs : List Nat
  rs : List (List Int)
def Wa.enc (w : Wa) : D := .tuple [nT w.cs, .tuple (w.rs.map iT)]
def prodN (cs : List Nat) : Nat := cs.foldl (fun a c => a * c) 1
structure CsOk (cs : List Nat) : Prop where
  l1 : 1 ≤ cs.length
  l3 : cs.length ≤ 3
  c : ∀ c ∈ cs, 1 ≤ c ∧ c ≤ 4
structure Wa.Ok (w : Wa) : Prop where
  cs : CsOk w.cs
  l1 : 1 ≤ w.rs.length
  l6 : w.rs.length ≤ 6
  rs : ∀ r ∈ w.rs, r.length = prodN w.cs ∧ ∀ x ∈ r, -1 ≤ x ∧ x < w.rs.length
theorem prod_cast : ∀ (cs : List Nat) (a : Nat), (cs.map fun (n : Nat) => PyData.int (n : Int)).foldl (fun a c => a * toI c) (a : Int) = ((cs.foldl (fun a c => a * c) a : Nat) : Int)
  | [], _ => rfl
  | c :: cs, a => by
    rw [List.map_cons, List.foldl_cons, List.foldl_cons, ← prod_cast cs (a * c)]
    congr 1
theorem prodI_N (cs : List Nat) : prodI (cs.map fun (n : Nat) => PyData.int (n : Int)) = prodN cs := prod_cast cs 1
theorem prod_bd : ∀ (cs : List Nat) (a : Nat), (∀ c ∈ cs, 1 ≤ c ∧ c ≤ 4) → 1 ≤ a → 1 ≤ cs.foldl (fun a c => a * c) a ∧ cs.foldl (fun a c => a * c) a ≤ a * 4 ^ cs.length
  | [], a, _, h => ⟨h, by simp⟩
  | c :: cs, a, hc, h => by
    have h1 := hc c List.mem_cons_self
    have h2 := prod_bd cs (a * c) (fun x hx => hc x (List.mem_cons_of_mem _ hx)) (Nat.mul_pos h h1.1)
    rw [List.foldl_cons, List.length_cons, Nat.pow_succ]
    refine ⟨h2.1, Nat.le_trans h2.2 ?_⟩
    rw [Nat.mul_comm (4 ^ cs.length) 4, ← Nat.mul_assoc]
    exact Nat.mul_le_mul_right _ (Nat.mul_le_mul_left a h1.2)
theorem CsOk.prod {cs : List Nat} (h : CsOk cs) : 1 ≤ prodN cs ∧ prodN cs ≤ 64 := by
  have h1 := prod_bd cs 1 h.c (Nat.le_refl 1)
  refine ⟨h1.1, Nat.le_trans h1.2 ?_⟩
  have : 4 ^ cs.length ≤ 4 ^ 3 := Nat.pow_le_pow_right (by decide) h.l3
  omega
theorem CsOk.wi {cs : List Nat} (h : CsOk cs) : ∀ c ∈ (cs.map fun (n : Nat) => PyData.int (n : Int)), withinB c (-1000) 1000 = true := by
  intro c hc
  obtain ⟨n, hn, rfl⟩ := List.mem_map.mp hc
  have := h.c n hn
  simp [withinB]
  omega
theorem Wa.Ok.wat {w : Wa} (h : w.Ok) : watB w.enc = true := by
  have h1 := h.cs.l1; have h2 := h.cs.l3; have h3 := h.l1; have h4 := h.l6
  have e1 : (w.cs.map fun (n : Nat) => PyData.int (n : Int)).all (fun x => withinB x 1 4) = true := by
    rw [List.all_eq_true]
    intro x hx
    obtain ⟨n, hn, rfl⟩ := List.mem_map.mp hx
    have := h.cs.c n hn
    simp [withinB]
    omega
  have e2 : (w.rs.map iT).all (rowB (prodI (w.cs.map fun (n : Nat) => PyData.int (n : Int))) (w.rs.map iT).length) = true := by
    rw [List.all_eq_true, prodI_N, List.length_map]
    intro x hx
    obtain ⟨r, hr, rfl⟩ := List.mem_map.mp hx
    obtain ⟨k1, k2⟩ := h.rs r hr
    have e3 : (r.map fun (n : Int) => PyData.int n).all (fun x => withinB x (-1) ((w.rs.length : Int) - 1)) = true := by
      rw [List.all_eq_true]
      intro x hx
      obtain ⟨n, hn, rfl⟩ := List.mem_map.mp hx
      have := k2 n hn
      simp [withinB]
      omega
    show (decide (((r.map fun (n : Int) => PyData.int n).length : Int) = prodN w.cs) && _) = true
    rw [e3, List.length_map, k1]
    simp
  show (_ && _ && _ && _) = true
  rw [e1, e2, List.length_map, List.length_map]
  simp
  omega
structure WatcherOfOk (F : Fn) : Prop where
  pu : F.pu = false
  n : F.n = 3
  run : ∀ g cs (m : Nat), Bx g → CsOk cs → 1 ≤ m → m ≤ 6 → CR.at (fun v g' => (∃ w : Wa, v = .dat w.enc ∧ w.Ok ∧ w.cs = cs ∧ w.rs.length ≤ m) ∧ Bx g') (fun _ _ => False) (F.run [.gl 0, .dat (nT cs), .dat (.int m)] g)
theorem call_watcherOf {F : Fn} {os : List Opd} {r : Rho} {K : SV → Rho → Prop} {X : Nat → Rho → Prop} {cs : List Nat} {m : Nat} (h : WatcherOfOk F) (ho : argsSV r os = some ([.gl 0, .dat (nT cs), .dat (.int m)], false)) (hb : Bx r.g) (hm : CsOk cs ∧ 1 ≤ m ∧ m ≤ 6) (k : ∀ (w : Wa) g', w.Ok → w.cs = cs → w.rs.length ≤ m → Bx g' → K (.dat w.enc) ⟨r.sl, g'⟩) : (doCall F os).wp r K X := by
  refine call_box (vs := [.gl 0, .dat (nT cs), .dat (.int m)]) h.pu h.n ho (h.run _ _ _ hb hm.1 hm.2.1 hm.2.2) ?_ ?_
  · rintro _ ⟨n, rfl, _⟩; rfl
  · rintro _ g' ⟨n, rfl, h1, h2, h3⟩ hg; exact k n g' h1 h2 h3 hg
structure BadWOk (F : Fn) : Prop where
  pu : F.pu = false
  n : F.n = 2
  run : ∀ g (w : Wa), Bx g → w.Ok → CR.at (fun v g' => (∃ x, v = .dat x ∧ watB x = false) ∧ Bx g') (fun _ _ => False) (F.run [.gl 0, .dat w.enc] g)
theorem call_badW {F : Fn} {os : List Opd} {r : Rho} {K : SV → Rho → Prop} {X : Nat → Rho → Prop} {w : Wa} (h : BadWOk F) (ho : argsSV r os = some ([.gl 0, .dat w.enc], false)) (hb : Bx r.g) (hs : w.Ok) (k : ∀ x g', watB x = false → Bx g' → K (.dat x) ⟨r.sl, g'⟩) : (doCall F os).wp r K X := by
  refine call_box (vs := [.gl 0, .dat w.enc]) h.pu h.n ho (h.run _ _ hb hs) ?_ ?_
  · rintro _ ⟨n, rfl, _⟩; rfl
  · rintro _ g' ⟨n, rfl, hn⟩ hg; exact k n g' hn hg
local macro_rules | `(tactic| fail "w") => `(tactic| first
  | with_reducible refine wSs_cons ?_ | with_reducible refine wSs_nil ?_ | with_reducible refine wS_asg ?_ | with_reducible refine wS_ret ?_ | with_reducible refine wS_ite ?_ | with_reducible refine wS_ex ?_ | with_reducible refine wS_unp ?_ | with_reducible refine wS_for ?_
  | ((with_reducible refine wS_mutO ?_ ?_); exact rfl) | ((with_reducible apply exMg); exact rfl; exact rfl; exact rfl; exact rfl; exact rfl) | ((with_reducible apply exMo); exact rfl; exact rfl; exact rfl; exact rfl)
  | with_reducible refine wS_raise ?_ | with_reducible refine wS_retN ?_ | with_reducible refine wS_par ?_ | with_reducible refine wS_pass ?_ | with_reducible refine wS_tryC ?_
  | with_reducible refine wE_k ?_ | ((with_reducible apply wE_nm); exact rfl) | ((with_reducible apply wE_fz); exact rfl) | ((with_reducible apply wE_fzO); exact rfl) | with_reducible refine wE_op ?_ | with_reducible refine wE_glob ?_ | with_reducible refine wE_call ?_ | with_reducible refine wE_tup ?_ | with_reducible refine wE_lst ?_
  | with_reducible refine wE_chain ?_ | with_reducible refine wE_and ?_ | with_reducible refine wE_or ?_ | with_reducible refine wE_not ?_ | with_reducible refine wE_ife ?_ | with_reducible refine wE_asI ?_
  | with_reducible refine wEs_nil ?_ | with_reducible refine wEs_cons ?_
  | with_reducible refine wT_op ?_ | with_reducible refine wT_lst ?_ | with_reducible refine wT_call ?_ | with_reducible refine wT_lc ?_ | with_reducible refine wT_lcIf ?_ | with_reducible refine wT_lc2 ?_ | ((with_reducible apply wT_of); exact rfl)
  | with_reducible refine wE_lc ?_ | with_reducible refine wE_lcIf ?_ | with_reducible refine wE_lc2 ?_
  | with_reducible refine wI_seq ?_ | with_reducible refine wI_rng ?_ | with_reducible refine wI_rng2 ?_ | with_reducible refine wI_zip2 ?_ | with_reducible refine wI_zip3 ?_)
local macro_rules | `(tactic| fail "v") => `(tactic| first
  | with_reducible refine wSs_nil ?_ | with_reducible refine wS_asg ?_ | with_reducible refine wS_ret ?_ | with_reducible refine wS_ite ?_ | with_reducible refine wS_ex ?_ | with_reducible refine wS_unp ?_ | with_reducible refine wS_for ?_
  | ((with_reducible refine wS_mutO ?_ ?_); exact rfl) | ((with_reducible apply exMg); exact rfl; exact rfl; exact rfl; exact rfl; exact rfl) | ((with_reducible apply exMo); exact rfl; exact rfl; exact rfl; exact rfl)
  | with_reducible refine wS_raise ?_ | with_reducible refine wS_retN ?_ | with_reducible refine wS_par ?_ | with_reducible refine wS_pass ?_ | with_reducible refine wS_tryC ?_
  | with_reducible refine wE_k ?_ | ((with_reducible apply wE_nm); exact rfl) | ((with_reducible apply wE_fz); exact rfl) | ((with_reducible apply wE_fzO); exact rfl) | with_reducible refine wE_op ?_ | with_reducible refine wE_glob ?_ | with_reducible refine wE_call ?_ | with_reducible refine wE_tup ?_ | with_reducible refine wE_lst ?_
  | with_reducible refine wE_chain ?_ | with_reducible refine wE_and ?_ | with_reducible refine wE_or ?_ | with_reducible refine wE_not ?_ | with_reducible refine wE_ife ?_ | with_reducible refine wE_asI ?_
  | with_reducible refine wEs_nil ?_ | with_reducible refine wEs_cons ?_
  | with_reducible refine wT_op ?_ | with_reducible refine wT_lst ?_ | with_reducible refine wT_call ?_ | with_reducible refine wT_lc ?_ | with_reducible refine wT_lcIf ?_ | with_reducible refine wT_lc2 ?_ | ((with_reducible apply wT_of); exact rfl)
  | with_reducible refine wE_lc ?_ | with_reducible refine wE_lcIf ?_ | with_reducible refine wE_lc2 ?_
  | with_reducible refine wI_seq ?_ | with_reducible refine wI_rng ?_ | with_reducible refine wI_rng2 ?_ | with_reducible refine wI_zip2 ?_ | with_reducible refine wI_zip3 ?_)
set_option hygiene false in
local macro_rules | `(tactic| fail "x") => `(tactic| first | ((with_reducible apply exB); exact rfl) | ((with_reducible apply exVf); exact rfl; exact rfl) | ((with_reducible apply exVo); exact rfl; exact rfl) | ((with_reducible apply exO); exact rfl) | ((with_reducible apply exU); exact rfl) | ((with_reducible refine fun hk => ?_); cases hk) | with_reducible refine fun hk => ?_)
local macro_rules | `(tactic| fail "c") => `(tactic| first
  | ((with_reducible apply call_whole); assumption; exact rfl)
  | ((with_reducible apply call_within); assumption; exact rfl)
  | ((with_reducible apply call_rising); assumption; exact rfl)
  | ((with_reducible apply call_system); assumption; exact rfl)
  | ((with_reducible apply call_checkSy); assumption; exact rfl; assumption))
local macro_rules | `(tactic| fail "go") => `(tactic| repeat' (first | fail "w" | fail "x" | fail "c"))
local macro_rules | `(tactic| fail "gs") => `(tactic| repeat' (first | fail "v" | fail "x" | fail "c"))
theorem watcherOf_ok {Fs : Nat → Fn} {i j k : Nat} (ht : TakeOk (Fs i)) (hp : PickOk (Fs j)) (hm : TimesOk (Fs k)) : WatcherOfOk ⟨false, 3, fnRun Fs 8 (B_law_watcher i j k)⟩ := by
  refine ⟨rfl, rfl, fun g cs m hg hc hm1 hm6 => fnRun_go (sl := [some (.gl 0), some (.dat (nT cs)), some (.dat (.int m)), none, none, none, none, none]) rfl ?_⟩
  unfold B_law_watcher
  have hpr := hc.prod
  fail "go"
  refine call_take ht rfl hg ⟨by omega, by omega⟩ fun n g1 hn hg1 => ?_
  fail "go"
  refine call_pick hp rfl hg1 ⟨by decide, by decide⟩ ?_
  intro x g2 hx hg2
  obtain ⟨o, rfl, ho2, ho9⟩ : ∃ o : Int, x = .int o ∧ 2 ≤ o ∧ o ≤ 9 := by
    simp only [List.mem_cons, List.mem_nil_iff, or_false] at hx
    rcases hx with rfl | rfl | rfl | rfl | rfl | rfl <;> exact ⟨_, rfl, by decide, by decide⟩
  fail "go"
  refine exO (op_rng (mid_of (by omega) (by omega))) ?_
  refine ⟨fun j r => ∃ (l : List (List Int)) (o6 o7 : Option SV) (g : List GE), (l.length = j ∧ (∀ r ∈ l, r.length = prodN cs ∧ ∀ x ∈ r, -1 ≤ x ∧ x < (1 + n : Nat)) ∧ Jk o6 ∧ Bx g) ∧ r = ⟨[some (.gl 0), some (.dat (nT cs)), some (.dat (.int m)), some (.dat (.int (1 + n))), some (.dat (.int o)), some (.own (.list (l.map iT))), o6, o7], g⟩, ⟨[], none, none, _, ⟨rfl, by simp, jk_none, hg2⟩, rfl⟩, ?_, ?_⟩
  · rintro j x _ e ⟨l, o6, o7, g3, ⟨h1, h2, h3, h4⟩, rfl⟩
    obtain ⟨rfl, hj⟩ := rngD_at e
    refine ⟨_, wr_jk (by exact h3), ?_⟩
    fail "go"
    refine comp_wpI ?_
    fail "go"
    refine call_times hm rfl hc.wi ?_
    rw [prodI_N]
    fail "go"
    refine exO (op_rng (mid_of (by omega) (by omega))) ?_
    refine ⟨rfl, rfl, fun i ys r => ∃ (q : List Int) (o7 : Option SV) (g : List GE), (q.length = i ∧ (∀ x ∈ q, -1 ≤ x ∧ x < (1 + n : Nat)) ∧ Bx g) ∧ ys = (q.map fun (n : Int) => PyData.int n) ∧ r = ⟨[some (.gl 0), some (.dat (nT cs)), some (.dat (.int m)), some (.dat (.int (1 + n))), some (.dat (.int o)), some (.own (.list (l.map iT))), some (.dat (.int (0 + j))), o7], g⟩, ⟨[], _, _, ⟨rfl, by simp, h4⟩, rfl, rfl⟩, ?_, ?_⟩
    · rintro i x ys _ e ⟨q, o7, g4, ⟨k1, k2, k3⟩, rfl, rfl⟩
      obtain ⟨rfl, hj⟩ := rngD_at e
      refine ⟨_, rfl, elt1_wp ?_⟩
      fail "go"
      refine call_take ht rfl k3 ⟨by omega, by omega⟩ fun a g5 ha hg5 => ?_
      fail "go"
      · refine ⟨q ++ [-1], _, _, ⟨by simp [k1], ?_, hg5⟩, by rw [List.map_append]; rfl, rfl⟩
        intro x hx
        rcases List.mem_append.mp hx with h | h
        · exact k2 x h
        · rw [List.mem_singleton.mp h]; omega
      · refine call_take ht rfl hg5 ⟨by omega, by omega⟩ fun b g6 hb hg6 => ?_
        fail "go"
        refine ⟨q ++ [(b : Int)], _, _, ⟨by simp [k1], ?_, hg6⟩, by rw [List.map_append]; rfl, rfl⟩
        intro x hx
        rcases List.mem_append.mp hx with h | h
        · exact k2 x h
        · rw [List.mem_singleton.mp h]; omega
    · rintro ys _ ⟨q, o7', g4, ⟨k1, k2, k3⟩, rfl, rfl⟩
      have h5 : (rngD 0 (prodN cs : Int)).length = prodN cs := by rw [rngD_lenN]; omega
      dsimp only at k1
      rw [h5] at k1
      refine ⟨by rw [List.length_map, k1]; exact lim_of (by omega), ?_⟩
      fail "go"
      refine exMo rfl rfl rfl (mu_app (by rw [List.length_map]; exact Nat.lt_of_lt_of_le (show l.length < 100 by omega) (lim_of (by decide)))) ?_
      fail "go"
      refine ⟨l ++ [q], _, _, _, ⟨by simp [h1], ?_, jk_dat, k3⟩, by rw [List.map_append]; rfl⟩
      intro r hr
      rcases List.mem_append.mp hr with h | h
      · exact h2 r h
      · rw [List.mem_singleton.mp h]; exact ⟨k1, k2⟩
  · rintro _ ⟨l, o6, o7, g3, ⟨h1, h2, h3, h4⟩, rfl⟩
    have h5 : (rngD 0 (1 + (n : Int))).length = 1 + n := by rw [rngD_lenN]; omega
    dsimp only at h1
    rw [h5] at h1
    fail "go"
    refine ⟨⟨⟨cs, l⟩, rfl, ⟨hc, by dsimp only; omega, by dsimp only; omega, ?_⟩, rfl, by dsimp only; omega⟩, h4⟩
    intro r hr
    have := h2 r hr
    dsimp only at *
    rw [h1]
    exact this
end Mp
set_option Elab.async false
set_option linter.all false
set_option maxRecDepth 100000
set_option maxHeartbeats 2000000
/-! LpA: spoilt watchers (plain Lean) -/
namespace Mp
open PySem
def Aw (w : Wa) (at_ : Nat) (row : List Int) (k : Nat) (o6 o7 o10 : Option SV) (g : List GE) : Rho := ⟨[some (.gl 0), some (.dat w.enc), some (.dat (.int (w.rs.map iT).length)), some (.dat (.int at_)), some (.dat (iT row)), some (.dat (.int k)), o6, o7, some (.dat (nT w.cs)), some (.dat (.tuple (w.rs.map iT))), o10], g⟩
def Q1 (w : Wa) (at_ : Nat) (row : List Int) (k : Nat) (m : Nat) (r : Rho) : Prop := ∃ L g, (∀ x ∈ L, rowB (prodN w.cs) w.rs.length x = false) ∧ L.length ≤ m ∧ Bx g ∧ r = Aw w at_ row k (some (.own (.list L))) none none g
def Q2 (w : Wa) (at_ : Nat) (row : List Int) (k : Nat) (m0 m : Nat) (r : Rho) : Prop := ∃ L o6 g, (∀ x ∈ L, watB x = false) ∧ (m0 ≤ L.length ∧ L.length ≤ m ∧ Jk o6) ∧ Bx g ∧ r = Aw w at_ row k o6 (some (.own (.list L))) none g
theorem row_len {n : Int} {m : Nat} {xs : List D} (h : (xs.length : Int) ≠ n) : rowB n m (.tuple xs) = false := by
  show (decide _ && _) = false
  rw [decide_eq_false h, Bool.false_and]
theorem row_in {n : Int} {m : Nat} {x : D} {xs : List D} (hx : x ∈ xs) (h : withinB x (-1) (m - 1) = false) : rowB n m (.tuple xs) = false := by
  have : xs.all (fun x => withinB x (-1) (m - 1)) = false := by
    rw [List.all_eq_false]
    exact ⟨x, hx, by rw [h]; decide⟩
  show (_ && _) = false
  rw [this, Bool.and_false]
theorem wat_state {cs xs : List D} {x : D} (hx : x ∈ xs) (h : rowB (prodI cs) xs.length x = false) : watB (.tuple [.tuple cs, .tuple xs]) = false := by
  have : xs.all (rowB (prodI cs) xs.length) = false := by
    rw [List.all_eq_false]
    exact ⟨x, hx, by rw [h]; decide⟩
  show (_ && _ && _ && _) = false
  rw [this, Bool.and_false]
theorem wat_count {cs xs : List D} {x : D} (hx : x ∈ cs) (h : withinB x 1 4 = false) : watB (.tuple [.tuple cs, .tuple xs]) = false := by
  have : cs.all (fun x => withinB x 1 4) = false := by
    rw [List.all_eq_false]
    exact ⟨x, hx, by rw [h]; decide⟩
  show (_ && _ && _ && _) = false
  rw [this, Bool.and_false, Bool.false_and, Bool.false_and]
theorem wat_len {cs xs : List D} (h : 6 < xs.length) : watB (.tuple [.tuple cs, .tuple xs]) = false := by
  have : decide ((xs.length : Int) ≤ 6) = false := decide_eq_false (by omega)
  show (_ && _ && (_ && _) && _) = false
  rw [this, Bool.and_false, Bool.and_false, Bool.false_and]
theorem wat_cl {cs xs : List D} (h : 3 < cs.length) : watB (.tuple [.tuple cs, .tuple xs]) = false := by
  have : decide ((cs.length : Int) ≤ 3) = false := decide_eq_false (by omega)
  show ((_ && _) && _ && _ && _) = false
  rw [this, Bool.and_false, Bool.false_and, Bool.false_and, Bool.false_and]
theorem prod_two (cs : List Nat) : prodI ((cs.map fun (n : Nat) => PyData.int (n : Int)) ++ [.int 2]) = 2 * prodN cs := by
  have := prodI_N cs
  unfold prodI at this ⊢
  rw [List.foldl_append, this]
  show (prodN cs : Int) * 2 = _
  omega
local macro_rules | `(tactic| fail "w") => `(tactic| first
  | with_reducible refine wSs_cons ?_ | with_reducible refine wSs_nil ?_ | with_reducible refine wS_asg ?_ | with_reducible refine wS_ret ?_ | with_reducible refine wS_ite ?_ | with_reducible refine wS_ex ?_ | with_reducible refine wS_unp ?_ | with_reducible refine wS_for ?_
  | ((with_reducible refine wS_mutO ?_ ?_); exact rfl) | ((with_reducible apply exMg); exact rfl; exact rfl; exact rfl; exact rfl; exact rfl) | ((with_reducible apply exMo); exact rfl; exact rfl; exact rfl; exact rfl)
  | with_reducible refine wS_raise ?_ | with_reducible refine wS_retN ?_ | with_reducible refine wS_par ?_ | with_reducible refine wS_pass ?_ | with_reducible refine wS_tryC ?_
  | with_reducible refine wE_k ?_ | ((with_reducible apply wE_nm); exact rfl) | ((with_reducible apply wE_fz); exact rfl) | ((with_reducible apply wE_fzO); exact rfl) | with_reducible refine wE_op ?_ | with_reducible refine wE_glob ?_ | with_reducible refine wE_call ?_ | with_reducible refine wE_tup ?_ | with_reducible refine wE_lst ?_
  | with_reducible refine wE_chain ?_ | with_reducible refine wE_and ?_ | with_reducible refine wE_or ?_ | with_reducible refine wE_not ?_ | with_reducible refine wE_ife ?_ | with_reducible refine wE_asI ?_
  | with_reducible refine wEs_nil ?_ | with_reducible refine wEs_cons ?_
  | with_reducible refine wT_op ?_ | with_reducible refine wT_lst ?_ | with_reducible refine wT_call ?_ | with_reducible refine wT_lc ?_ | with_reducible refine wT_lcIf ?_ | with_reducible refine wT_lc2 ?_ | ((with_reducible apply wT_of); exact rfl)
  | with_reducible refine wE_lc ?_ | with_reducible refine wE_lcIf ?_ | with_reducible refine wE_lc2 ?_
  | with_reducible refine wI_seq ?_ | with_reducible refine wI_rng ?_ | with_reducible refine wI_rng2 ?_ | with_reducible refine wI_zip2 ?_ | with_reducible refine wI_zip3 ?_)
local macro_rules | `(tactic| fail "v") => `(tactic| first
  | with_reducible refine wSs_nil ?_ | with_reducible refine wS_asg ?_ | with_reducible refine wS_ret ?_ | with_reducible refine wS_ite ?_ | with_reducible refine wS_ex ?_ | with_reducible refine wS_unp ?_ | with_reducible refine wS_for ?_
  | ((with_reducible refine wS_mutO ?_ ?_); exact rfl) | ((with_reducible apply exMg); exact rfl; exact rfl; exact rfl; exact rfl; exact rfl) | ((with_reducible apply exMo); exact rfl; exact rfl; exact rfl; exact rfl)
  | with_reducible refine wS_raise ?_ | with_reducible refine wS_retN ?_ | with_reducible refine wS_par ?_ | with_reducible refine wS_pass ?_ | with_reducible refine wS_tryC ?_
  | with_reducible refine wE_k ?_ | ((with_reducible apply wE_nm); exact rfl) | ((with_reducible apply wE_fz); exact rfl) | ((with_reducible apply wE_fzO); exact rfl) | with_reducible refine wE_op ?_ | with_reducible refine wE_glob ?_ | with_reducible refine wE_call ?_ | with_reducible refine wE_tup ?_ | with_reducible refine wE_lst ?_
  | with_reducible refine wE_chain ?_ | with_reducible refine wE_and ?_ | with_reducible refine wE_or ?_ | with_reducible refine wE_not ?_ | with_reducible refine wE_ife ?_ | with_reducible refine wE_asI ?_
  | with_reducible refine wEs_nil ?_ | with_reducible refine wEs_cons ?_
  | with_reducible refine wT_op ?_ | with_reducible refine wT_lst ?_ | with_reducible refine wT_call ?_ | with_reducible refine wT_lc ?_ | with_reducible refine wT_lcIf ?_ | with_reducible refine wT_lc2 ?_ | ((with_reducible apply wT_of); exact rfl)
  | with_reducible refine wE_lc ?_ | with_reducible refine wE_lcIf ?_ | with_reducible refine wE_lc2 ?_
  | with_reducible refine wI_seq ?_ | with_reducible refine wI_rng ?_ | with_reducible refine wI_rng2 ?_ | with_reducible refine wI_zip2 ?_ | with_reducible refine wI_zip3 ?_)
set_option hygiene false in
local macro_rules | `(tactic| fail "x") => `(tactic| first | ((with_reducible apply exB); exact rfl) | ((with_reducible apply exVf); exact rfl; exact rfl) | ((with_reducible apply exVo); exact rfl; exact rfl) | ((with_reducible apply exO); exact rfl) | ((with_reducible apply exU); exact rfl) | ((with_reducible refine fun hk => ?_); cases hk) | with_reducible refine fun hk => ?_)
local macro_rules | `(tactic| fail "c") => `(tactic| first
  | ((with_reducible apply call_whole); assumption; exact rfl)
  | ((with_reducible apply call_within); assumption; exact rfl)
  | ((with_reducible apply call_rising); assumption; exact rfl)
  | ((with_reducible apply call_system); assumption; exact rfl)
  | ((with_reducible apply call_checkSy); assumption; exact rfl; assumption))
local macro_rules | `(tactic| fail "go") => `(tactic| repeat' (first | fail "w" | fail "x" | fail "c"))
local macro_rules | `(tactic| fail "gs") => `(tactic| repeat' (first | fail "v" | fail "x" | fail "c"))
theorem bad_watcher_ok {Fs : Nat → Fn} {i j : Nat} (ht : TakeOk (Fs i)) (hp : PickOk (Fs j)) : BadWOk ⟨false, 2, fnRun Fs 11 (B_law_bad_watcher i j)⟩ := by
  refine ⟨rfl, rfl, fun g w hg hw => fnRun_go (sl := [some (.gl 0), some (.dat w.enc), none, none, none, none, none, none, none, none, none]) rfl ?_⟩
  unfold B_law_bad_watcher
  have hn1 := hw.l1
  have hn6 := hw.l6
  have hpr := hw.cs.prod
  have hc1 := hw.cs.l1
  have hc3 := hw.cs.l3
  have hrl : (w.rs.map iT).length = w.rs.length := List.length_map _
  have hcl : (w.cs.map fun (n : Nat) => PyData.int (n : Int)).length = w.cs.length := List.length_map _
  fail "go"
  refine call_take ht rfl hg ⟨by omega, by omega⟩ fun at_ g1 hat hg1 => ?_
  have hat' : at_ < w.rs.length := by omega
  obtain ⟨hrow, hrx⟩ := hw.rs _ (List.getElem_mem hat')
  have her : (w.rs.map iT)[at_]? = some (iT w.rs[at_]) := by rw [List.getElem?_map, List.getElem?_eq_getElem hat']; rfl
  generalize w.rs[at_] = row at hrow hrx her
  have hrwl : (row.map fun (n : Int) => PyData.int n).length = prodN w.cs := by rw [List.length_map, hrow]
  fail "go"
  refine exVf (op_idxT (atD_nat her)) rfl ?_
  fail "go"
  refine call_take ht rfl hg1 ⟨by omega, by omega⟩ fun k g2 hk2 hg2 => ?_
  fail "gs"
  refine wSs_at (r' := Aw w at_ row k none none none g2) rfl ?_
  have hk' : k < prodN w.cs := by omega
  have hcut : cutD (row.map fun (n : Int) => PyData.int n) none (some (k : Int)) = (row.map fun (n : Int) => PyData.int n).take k := cut_lo (by omega)
  have hcut2 : cutD (row.map fun (n : Int) => PyData.int n) (some ((k : Int) + 1)) none = (row.map fun (n : Int) => PyData.int n).drop (k + 1) := cut_hi (by omega) (by omega)
  have hcut3 : cutD (row.map fun (n : Int) => PyData.int n) (some 1) none = (row.map fun (n : Int) => PyData.int n).drop 1 := cut_hi (a := 1) rfl (by omega)
  have hB1 : ∀ x ∈ [PyData.int (w.rs.map iT).length, .int (-2), .bool true, .none, .str "0", .tuple [.int 0]], withinB x (-1) ((w.rs.length : Int) - 1) = false := by
    intro x hx
    simp only [List.mem_cons, List.mem_nil_iff, or_false] at hx
    rcases hx with rfl | rfl | rfl | rfl | rfl | rfl
    all_goals try rfl
    all_goals (simp [withinB]; try omega)
  refine wSs_cut (Q1 w at_ row k 20) ?_ ?_
  · fail "go"
    refine exO (op_addT (lim_of (by rw [List.length_append, hrwl]; simp; omega))) ?_
    fail "go"
    refine exO (op_of rfl (f_mulX (by omega) (by omega))) ?_
    fail "go"
    refine comp_map (fun x => [.tuple ((row.map fun (n : Int) => PyData.int n).take k ++ [x] ++ (row.map fun (n : Int) => PyData.int n).drop (k + 1))]) (fun r => ∃ o10, r = Aw w at_ row k none none o10 g2) ?_
    fail "go"
    refine ⟨rfl, rfl, ⟨none, rfl⟩, ?_, ?_, ?_⟩
    · rintro x hx _ ⟨o10, rfl⟩
      refine ⟨_, rfl, elt1_wp ?_⟩
      fail "go"
      rw [hcut]
      refine exO (op_addT (lim_of (by rw [List.length_append, List.length_take]; simp; omega))) ?_
      fail "go"
      rw [hcut2]
      refine exO (op_addT (lim_of (by rw [List.length_append, List.length_append, List.length_take, List.length_drop]; simp; omega))) ?_
      fail "go"
      exact ⟨rfl, _, rfl⟩
    · exact lim_of (Nat.le_trans (flat_len (m := 1) _ fun _ _ => Nat.le_refl 1) (by simp))
    · rintro _ ⟨o10, rfl⟩
      have hfl := flat_len (f := fun x => [PyData.tuple ((row.map fun (n : Int) => PyData.int n).take k ++ [x] ++ (row.map fun (n : Int) => PyData.int n).drop (k + 1))]) (m := 1) [PyData.int (w.rs.map iT).length, .int (-2), .bool true, .none, .str "0", .tuple [.int 0]] fun _ _ => Nat.le_refl 1
      simp only [List.length_cons, List.length_nil] at hfl
      fail "go"
      refine ⟨_, g2, ?_, ?_, hg2, rfl⟩
      · intro x hx
        rcases List.mem_append.mp hx with h | h
        · clear hx
          rw [hcut3] at h
          simp only [List.mem_cons, List.mem_nil_iff, or_false] at h
          rcases h with rfl | rfl | rfl | rfl | rfl | rfl
          all_goals try rfl
          all_goals (refine row_len ?_)
          · rw [List.length_append, hrwl]; simp; omega
          · rw [List.length_drop, hrwl]; omega
          · rw [repD_len, hrwl]; simp; omega
        · obtain ⟨y, hy, h⟩ := List.mem_flatMap.mp h
          rw [List.mem_singleton.mp h]
          exact row_in (x := y) (by simp) (hB1 y hy)
      · rw [List.length_append]
        exact Nat.le_trans (Nat.add_le_add_left hfl _) (by show 6 + 6 ≤ 20; decide)
  rintro _ ⟨L, g3, hL, hl, hg3, rfl⟩
  have hcutS : cutD (w.rs.map iT) none (some (at_ : Int)) = (w.rs.map iT).take at_ := cut_lo (by omega)
  have hcutS2 : cutD (w.rs.map iT) (some ((at_ : Int) + 1)) none = (w.rs.map iT).drop (at_ + 1) := cut_hi (by omega) (by omega)
  have hclS : ∀ x : D, ((w.rs.map iT).take at_ ++ [x] ++ (w.rs.map iT).drop (at_ + 1)).length = w.rs.length := by
    intro x
    rw [List.length_append, List.length_append, List.length_take, List.length_drop, hrl]
    simp
    omega
  refine wSs_cut (Q2 w at_ row k 0 20) ?_ ?_
  · fail "go"
    refine comp_map (fun x => [.tuple [nT w.cs, .tuple ((w.rs.map iT).take at_ ++ [x] ++ (w.rs.map iT).drop (at_ + 1))]]) (fun r => ∃ o10, r = Aw w at_ row k (some (.lck (.list L))) none o10 g3) ?_
    fail "go"
    refine ⟨rfl, rfl, ⟨none, rfl⟩, ?_, ?_, ?_⟩
    · rintro x hx _ ⟨o10, rfl⟩
      refine ⟨_, rfl, elt1_wp ?_⟩
      fail "go"
      rw [hcutS]
      refine exO (op_addT (lim_of (by rw [List.length_append, List.length_take]; simp; omega))) ?_
      fail "go"
      rw [hcutS2]
      refine exO (op_addT (lim_of (by have := hclS x; simp only [List.length_cons, List.length_nil] at this ⊢; rw [this]; omega))) ?_
      fail "go"
      exact ⟨rfl, _, rfl⟩
    · exact lim_of (Nat.le_trans (flat_len (m := 1) _ fun _ _ => Nat.le_refl 1) (by show L.length * 1 ≤ _; omega))
    · rintro _ ⟨o10, rfl⟩
      refine ⟨_, rfl, ?_⟩
      fail "go"
      refine ⟨_, _, g3, ?_, ⟨?_, ?_, ?_⟩, hg3, rfl⟩
      · intro x hx
        obtain ⟨y, hy, h⟩ := List.mem_flatMap.mp hx
        rw [List.mem_singleton.mp h]
        refine wat_state (x := y) (by simp) ?_
        rw [hclS, prodI_N]
        exact hL y hy
      · exact Nat.zero_le _
      · exact Nat.le_trans (flat_len (m := 1) _ fun _ _ => Nat.le_refl 1) (by show L.length * 1 ≤ _; omega)
      · exact jk_own
  clear hL hl L hg3 g3
  rintro _ ⟨L, o6, g3, hL, ⟨h0, hl, j6⟩, hg3, rfl⟩
  refine wSs_cut (Q2 w at_ row k 18 50) ?_ ?_
  · have hc1' : ((w.cs.map fun (n : Nat) => PyData.int (n : Int)).drop 1).length ≤ 3 := by rw [List.length_drop]; omega
    have hcutC : cutD (w.cs.map fun (n : Nat) => PyData.int (n : Int)) (some 1) none = (w.cs.map fun (n : Nat) => PyData.int (n : Int)).drop 1 := cut_hi (a := 1) rfl (by omega)
    fail "go"
    refine exO (op_of rfl (f_mulN (by decide) (by decide) (by omega) (by omega))) ?_
    fail "go"
    rw [hcutC]
    refine exO (op_addT (lim_of (by rw [List.length_append]; simp only [List.length_cons, List.length_nil]; omega))) ?_
    fail "go"
    rw [hcutC]
    refine exO (op_addT (lim_of (by rw [List.length_append]; simp only [List.length_cons, List.length_nil]; omega))) ?_
    fail "go"
    rw [hcutC]
    refine exO (op_addT (lim_of (by rw [List.length_append]; simp only [List.length_cons, List.length_nil]; omega))) ?_
    fail "go"
    refine exO (op_addT (lim_of (by rw [List.length_append, repD_len]; simp; omega))) ?_
    fail "go"
    refine exO (op_addT (lim_of (by rw [List.length_append]; simp only [List.length_cons, List.length_nil]; omega))) ?_
    fail "go"
    refine exVo (op_of rfl (f_addL (lim_of (by simp; omega)))) rfl ?_
    refine ⟨_, rfl, ?_⟩
    fail "go"
    refine ⟨_, o6, g3, ?_, ⟨?_, ?_, j6⟩, hg3, rfl⟩
    · intro x hx
      rcases List.mem_append.mp hx with h | h
      · exact hL x h
      · clear hx
        simp only [List.mem_cons, List.mem_nil_iff, or_false] at h
        rcases h with rfl | rfl | rfl | rfl | rfl | rfl | rfl | rfl | rfl | rfl | rfl | rfl | rfl | rfl | rfl | rfl | rfl | rfl
        all_goals try (first | rfl | (exact wat_count (List.mem_append_left _ List.mem_cons_self) rfl) | (simp [watB, withinB, nT]; done))
        · exact wat_len (by rw [repD_len, hrl]; simp; omega)
        · exact wat_count (x := iT row) (List.mem_of_getElem? her) rfl
        · exact wat_cl (by rw [List.length_append, repD_len]; simp)
        · refine wat_state (x := iT row) (List.mem_of_getElem? her) (row_len ?_)
          rw [hrwl]
          have := prod_two w.cs
          show (prodN w.cs : Int) ≠ prodI ((w.cs.map fun (n : Nat) => PyData.int (n : Int)) ++ [.int 2])
          rw [this]
          omega
    · simp
    · simp; omega
  clear hL hl L hg3 g3 h0 j6 o6
  rintro _ ⟨L, o6, g3, hL, ⟨h0, hl, j6⟩, hg3, rfl⟩
  fail "go"
  refine call_pick hp rfl hg3 ⟨by omega, by omega⟩ ?_
  intro x g4 hx hg4
  exact ⟨⟨x, rfl, hL x hx⟩, hg4⟩
end Mp
set_option Elab.async false
set_option linter.all false
set_option maxRecDepth 100000
set_option maxHeartbeats 2000000
/-! P04a: how a watcher goes (plain Lean) -/
namespace Mp
open PySem
/-- the place of a tuple of colours -/
def placeN : List Nat → List Nat → Nat → Nat
  | c :: cs, z :: zs, a => placeN cs zs (a * c + z)
  | _, _, a => a
/-- colours within counts -/
def Zs (cs zs : List Nat) : Prop := zs.length = cs.length ∧ ∀ i, i < cs.length → zs.getD i 0 < cs.getD i 0
theorem Zs.cons {c z : Nat} {cs zs : List Nat} (h : Zs (c :: cs) (z :: zs)) : z < c ∧ Zs cs zs := by
  refine ⟨h.2 0 (by simp), by have := h.1; simpa using this, fun i hi => ?_⟩
  have := h.2 (i + 1) (by simp; omega)
  simpa using this
theorem place_lt : ∀ (cs zs : List Nat) (a b : Nat), Zs cs zs → a < b → placeN cs zs a < cs.foldl (fun a c => a * c) b
  | [], zs, a, b, h, hab => by
    have : zs = [] := List.length_eq_zero_iff.mp h.1
    subst this
    exact hab
  | c :: cs, [], a, b, h, _ => by have := h.1; simp at this
  | c :: cs, z :: zs, a, b, h, hab => by
    obtain ⟨h1, h2⟩ := h.cons
    rw [List.foldl_cons]
    show placeN cs zs (a * c + z) < _
    refine place_lt cs zs _ _ h2 ?_
    have : (a + 1) * c ≤ b * c := Nat.mul_le_mul_right c hab
    rw [Nat.add_one_mul] at this
    omega
theorem Zs.place {cs zs : List Nat} (h : Zs cs zs) : placeN cs zs 0 < prodN cs := place_lt cs zs 0 1 h (by decide)
structure PlaceOk (F : Fn) : Prop where
  pu : F.pu = true
  n : F.n = 2
  run : ∀ cs zs, CsOk cs → Zs cs zs → RetV (F.run [.dat (nT cs), .dat (nT zs)] []) (.dat (.int (placeN cs zs 0 : Nat)))
structure StepOk (F : Fn) : Prop where
  pu : F.pu = true
  n : F.n = 3
  run : ∀ (w : Wa) (z : Nat) zs, w.Ok → z < w.rs.length → Zs w.cs zs → RetV (F.run [.dat w.enc, .dat (.int z), .dat (nT zs)] []) (.dat (.int ((w.rs.getD z []).getD (placeN w.cs zs 0) 0)))
structure GoesOk (F : Fn) : Prop where
  pu : F.pu = true
  n : F.n = 3
  run : ∀ (w : Wa) (z : Nat) zs, w.Ok → z < w.rs.length → Zs w.cs zs → RetV (F.run [.dat w.enc, .dat (.int z), .dat (nT zs)] []) (.dat (.int ((w.rs.getD z []).getD (placeN w.cs zs 0) 0)))
  bad : ∀ x y z, watB x = false → Exc (F.run [.dat x, .dat y, .dat z] []) 2
theorem place_take {cs zs : List Nat} {j c z : Nat} : ∀ (cs zs : List Nat) (j a c z : Nat), cs[j]? = some c → zs[j]? = some z → placeN (cs.take (j + 1)) (zs.take (j + 1)) a = placeN (cs.take j) (zs.take j) a * c + z
  | [], _, _, _, _, _, h, _ => by simp at h
  | _ :: _, [], _, _, _, _, _, h => by simp at h
  | c0 :: cs, z0 :: zs, 0, a, c, z, h1, h2 => by
    have e1 : c0 = c := by simpa using h1
    have e2 : z0 = z := by simpa using h2
    subst e1 e2
    simp [placeN]
  | c0 :: cs, z0 :: zs, j + 1, a, c, z, h1, h2 => by
    have := place_take (cs := cs) (zs := zs) (j := j) (c := c) (z := z) cs zs j (a * c0 + z0) c z (by simpa using h1) (by simpa using h2)
    rw [List.take_succ_cons, List.take_succ_cons, List.take_succ_cons, List.take_succ_cons]
    exact this
theorem row_at {w : Wa} {z : Nat} (h : z < w.rs.length) : (w.rs.map iT)[z]? = some (iT (w.rs.getD z [])) := by
  rw [List.getElem?_map, List.getElem?_eq_getElem h, List.getD_eq_getElem?_getD, List.getElem?_eq_getElem h]; rfl
theorem cell_at {r : List Int} {i : Nat} (h : i < r.length) : (r.map fun (n : Int) => PyData.int n)[i]? = some (.int (r.getD i 0)) := by
  rw [List.getElem?_map, List.getElem?_eq_getElem h, List.getD_eq_getElem?_getD, List.getElem?_eq_getElem h]; rfl
theorem Wa.Ok.rl {w : Wa} (h : w.Ok) {z : Nat} (hz : z < w.rs.length) : (w.rs.getD z []).length = prodN w.cs := by
  rw [List.getD_eq_getElem?_getD, List.getElem?_eq_getElem hz]
  exact (h.rs _ (List.getElem_mem hz)).1
theorem asg_two {i j : Nat} {x y : D} {r : Rho} (h1 : Jk (r.at i)) (h2 : Jk ((r.set i (some (.dat x))).at j)) : asgT (.tup [.nm i, .nm j]) (.tuple [x, y]) r = some ((r.set i (some (.dat x))).set j (some (.dat y))) := by
  have e1 : asgT (.nm i) x r = some (r.set i (some (.dat x))) := wr_jk h1
  have e2 : asgT (.nm j) y (r.set i (some (.dat x))) = some ((r.set i (some (.dat x))).set j (some (.dat y))) := wr_jk h2
  show asgTs [.nm i, .nm j] [x, y] r = _
  unfold asgTs
  rw [e1]
  dsimp only
  unfold asgTs
  rw [e2]
  rfl
theorem zip_at {xs ys : List D} {j : Nat} {x : D} (e : (zipD xs ys)[j]? = some x) : ∃ a b, xs[j]? = some a ∧ ys[j]? = some b ∧ x = .tuple [a, b] := by
  unfold zipD at e
  rw [List.getElem?_map] at e
  obtain ⟨p, h1, rfl⟩ := Option.map_eq_some_iff.mp e
  obtain ⟨h2, h3⟩ := List.getElem?_zip_eq_some.mp h1
  exact ⟨_, _, h2, h3, rfl⟩
theorem zip_length {xs ys : List D} : (zipD xs ys).length = min xs.length ys.length := by
  unfold zipD; rw [List.length_map, List.length_zip]
theorem int_at {p : List Nat} {j : Nat} {x : D} (e : (p.map fun (n : Nat) => PyData.int (n : Int))[j]? = some x) : ∃ n : Nat, p[j]? = some n ∧ x = .int n := by
  rw [List.getElem?_map] at e
  obtain ⟨n, h1, rfl⟩ := Option.map_eq_some_iff.mp e
  exact ⟨n, h1, rfl⟩
local macro_rules | `(tactic| fail "w") => `(tactic| first
  | with_reducible refine wSs_cons ?_ | with_reducible refine wSs_nil ?_ | with_reducible refine wS_asg ?_ | with_reducible refine wS_ret ?_ | with_reducible refine wS_ite ?_ | with_reducible refine wS_ex ?_ | with_reducible refine wS_unp ?_ | with_reducible refine wS_for ?_
  | ((with_reducible refine wS_mutO ?_ ?_); exact rfl) | ((with_reducible apply exMg); exact rfl; exact rfl; exact rfl; exact rfl; exact rfl) | ((with_reducible apply exMo); exact rfl; exact rfl; exact rfl; exact rfl)
  | with_reducible refine wS_raise ?_ | with_reducible refine wS_retN ?_ | with_reducible refine wS_par ?_ | with_reducible refine wS_pass ?_ | with_reducible refine wS_tryC ?_
  | with_reducible refine wE_k ?_ | ((with_reducible apply wE_nm); exact rfl) | ((with_reducible apply wE_fz); exact rfl) | ((with_reducible apply wE_fzO); exact rfl) | with_reducible refine wE_op ?_ | with_reducible refine wE_glob ?_ | with_reducible refine wE_call ?_ | with_reducible refine wE_tup ?_ | with_reducible refine wE_lst ?_
  | with_reducible refine wE_chain ?_ | with_reducible refine wE_and ?_ | with_reducible refine wE_or ?_ | with_reducible refine wE_not ?_ | with_reducible refine wE_ife ?_ | with_reducible refine wE_asI ?_
  | with_reducible refine wEs_nil ?_ | with_reducible refine wEs_cons ?_
  | with_reducible refine wT_op ?_ | with_reducible refine wT_lst ?_ | with_reducible refine wT_call ?_ | with_reducible refine wT_lc ?_ | with_reducible refine wT_lcIf ?_ | with_reducible refine wT_lc2 ?_ | ((with_reducible apply wT_of); exact rfl)
  | with_reducible refine wE_lc ?_ | with_reducible refine wE_lcIf ?_ | with_reducible refine wE_lc2 ?_
  | with_reducible refine wI_seq ?_ | with_reducible refine wI_rng ?_ | with_reducible refine wI_rng2 ?_ | with_reducible refine wI_zip2 ?_ | with_reducible refine wI_zip3 ?_)
local macro_rules | `(tactic| fail "v") => `(tactic| first
  | with_reducible refine wSs_nil ?_ | with_reducible refine wS_asg ?_ | with_reducible refine wS_ret ?_ | with_reducible refine wS_ite ?_ | with_reducible refine wS_ex ?_ | with_reducible refine wS_unp ?_ | with_reducible refine wS_for ?_
  | ((with_reducible refine wS_mutO ?_ ?_); exact rfl) | ((with_reducible apply exMg); exact rfl; exact rfl; exact rfl; exact rfl; exact rfl) | ((with_reducible apply exMo); exact rfl; exact rfl; exact rfl; exact rfl)
  | with_reducible refine wS_raise ?_ | with_reducible refine wS_retN ?_ | with_reducible refine wS_par ?_ | with_reducible refine wS_pass ?_ | with_reducible refine wS_tryC ?_
  | with_reducible refine wE_k ?_ | ((with_reducible apply wE_nm); exact rfl) | ((with_reducible apply wE_fz); exact rfl) | ((with_reducible apply wE_fzO); exact rfl) | with_reducible refine wE_op ?_ | with_reducible refine wE_glob ?_ | with_reducible refine wE_call ?_ | with_reducible refine wE_tup ?_ | with_reducible refine wE_lst ?_
  | with_reducible refine wE_chain ?_ | with_reducible refine wE_and ?_ | with_reducible refine wE_or ?_ | with_reducible refine wE_not ?_ | with_reducible refine wE_ife ?_ | with_reducible refine wE_asI ?_
  | with_reducible refine wEs_nil ?_ | with_reducible refine wEs_cons ?_
  | with_reducible refine wT_op ?_ | with_reducible refine wT_lst ?_ | with_reducible refine wT_call ?_ | with_reducible refine wT_lc ?_ | with_reducible refine wT_lcIf ?_ | with_reducible refine wT_lc2 ?_ | ((with_reducible apply wT_of); exact rfl)
  | with_reducible refine wE_lc ?_ | with_reducible refine wE_lcIf ?_ | with_reducible refine wE_lc2 ?_
  | with_reducible refine wI_seq ?_ | with_reducible refine wI_rng ?_ | with_reducible refine wI_rng2 ?_ | with_reducible refine wI_zip2 ?_ | with_reducible refine wI_zip3 ?_)
set_option hygiene false in
local macro_rules | `(tactic| fail "x") => `(tactic| first | ((with_reducible apply exB); exact rfl) | ((with_reducible apply exVf); exact rfl; exact rfl) | ((with_reducible apply exVo); exact rfl; exact rfl) | ((with_reducible apply exO); exact rfl) | ((with_reducible apply exU); exact rfl) | ((with_reducible refine fun hk => ?_); cases hk) | with_reducible refine fun hk => ?_)
local macro_rules | `(tactic| fail "c") => `(tactic| first
  | ((with_reducible apply call_whole); assumption; exact rfl)
  | ((with_reducible apply call_within); assumption; exact rfl)
  | ((with_reducible apply call_rising); assumption; exact rfl)
  | ((with_reducible apply call_system); assumption; exact rfl)
  | ((with_reducible apply call_checkSy); assumption; exact rfl; assumption))
local macro_rules | `(tactic| fail "go") => `(tactic| repeat' (first | fail "w" | fail "x" | fail "c"))
local macro_rules | `(tactic| fail "gs") => `(tactic| repeat' (first | fail "v" | fail "x" | fail "c"))
theorem place_ok {Fs : Nat → Fn} : PlaceOk ⟨true, 2, fnRun Fs 5 B_place_of⟩ := by
  refine ⟨rfl, rfl, fun cs zs hc hz => fnRun_go (sl := [some (.dat (nT cs)), some (.dat (nT zs)), none, none, none]) rfl ?_⟩
  unfold B_place_of
  fail "go"
  refine ⟨fun j r => ∃ o3 o4, (Jk o3 ∧ Jk o4) ∧ r = ⟨[some (.dat (nT cs)), some (.dat (nT zs)), some (.dat (.int (placeN (cs.take j) (zs.take j) 0 : Nat))), o3, o4], []⟩, ⟨none, none, ⟨trivial, trivial⟩, rfl⟩, ?_, ?_⟩
  · rintro j x _ e ⟨o3, o4, ⟨h3, h4⟩, rfl⟩
    obtain ⟨a, b, ea, eb, rfl⟩ := zip_at e
    obtain ⟨c, ec, rfl⟩ := int_at ea
    obtain ⟨z, ez, rfl⟩ := int_at eb
    have hcc := hc.c c (List.mem_of_getElem? ec)
    refine ⟨_, asg_two (by exact h3) (by exact h4), ?_⟩
    fail "go"
    refine exO (op_of rfl (f_mulR (small_of (by omega) (by omega)))) ?_
    fail "go"
    exact ⟨_, _, ⟨jk_dat, jk_dat⟩, by rw [place_take (cs := cs) (zs := zs) (j := j) (c := c) (z := z) cs zs j 0 c z ec ez]; rfl⟩
  · rintro _ ⟨o3, o4, ⟨h3, h4⟩, rfl⟩
    dsimp only
    rw [zip_length, List.length_map, List.length_map, hz.1, Nat.min_self, List.take_length, ← hz.1, List.take_length]
    fail "go"
    exact wS_mvD rfl rfl
theorem step_ok {Fs : Nat → Fn} {i : Nat} (hp : PlaceOk (Fs i)) : StepOk ⟨true, 3, fnRun Fs 3 (B_step i)⟩ := by
  refine ⟨rfl, rfl, fun w z zs hw hz hzs => fnRun_go (sl := [some (.dat w.enc), some (.dat (.int z)), some (.dat (nT zs))]) rfl ?_⟩
  unfold B_step
  fail "go"
  · refine exO (op_idxT (atD_nat (row_at hz))) ?_
    fail "go"
    refine call_ret (ds := [nT w.cs, nT zs]) hp.pu hp.n rfl (hp.run _ _ hw.cs hzs) rfl ?_
    fail "go"
    exact exVf (op_idxT (atD_nat (cell_at (by rw [hw.rl hz]; exact hzs.place)))) rfl rfl
theorem goes_ok {Fs : Nat → Fn} {i j : Nat} (hc : CheckWOk (Fs i)) (hp : StepOk (Fs j)) : GoesOk ⟨true, 3, fnRun Fs 3 (B_goes i j)⟩ := by
  refine ⟨rfl, rfl, fun w z zs hw hz hzs => fnRun_go (sl := [some (.dat w.enc), some (.dat (.int z)), some (.dat (nT zs))]) rfl ?_, fun x y z hx => fnRun_go (sl := [some (.dat x), some (.dat y), some (.dat z)]) rfl ?_⟩
  · unfold B_goes
    fail "go"
    refine call_checkWx hc rfl hw.wat ?_
    fail "go"
    exact call_ret (ds := [w.enc, .int z, nT zs]) hp.pu hp.n rfl (hp.run _ _ _ hw hz hzs) rfl rfl
  · unfold B_goes
    fail "go"
    exact call_checkWbad hc rfl hx rfl
end Mp
set_option Elab.async false
set_option linter.all false
set_option maxRecDepth 100000
set_option maxHeartbeats 2000000
/-! P04b: all tuples of colours (plain Lean) -/
namespace Mp
open PySem
structure LGoesOk (F : Fn) : Prop where
  pu : F.pu = true
  n : F.n = 3
  run : ∀ (w : Wa) (z : Nat) zs, w.Ok → z < w.rs.length → Zs w.cs zs → RetV (F.run [.dat w.enc, .dat (.int z), .dat (nT zs)] []) (.dat (.int ((w.rs.getD z []).getD (placeN w.cs zs 0) 0)))
def stepZ (l : List (List Nat)) (c : Nat) : List (List Nat) := l.flatMap fun o => (List.range c).map fun t => o ++ [t]
def allZ (cs : List Nat) : List (List Nat) := cs.foldl stepZ [[]]
theorem allZ_snoc (cs : List Nat) (c : Nat) : allZ (cs ++ [c]) = stepZ (allZ cs) c := by
  unfold allZ; rw [List.foldl_append]; rfl
theorem prodN_snoc (cs : List Nat) (c : Nat) : prodN (cs ++ [c]) = prodN cs * c := by
  unfold prodN; rw [List.foldl_append]; rfl
theorem place_snoc : ∀ (cs zs : List Nat) (a c z : Nat), zs.length = cs.length → placeN (cs ++ [c]) (zs ++ [z]) a = placeN cs zs a * c + z
  | [], [], _, _, _, _ => rfl
  | [], _ :: _, _, _, _, h => by simp at h
  | _ :: _, [], _, _, _, h => by simp at h
  | c0 :: cs, z0 :: zs, a, c, z, h => by
    show placeN (cs ++ [c]) (zs ++ [z]) (a * c0 + z0) = _
    rw [place_snoc cs zs _ c z (by simpa using h)]
    rfl
theorem range_mul : ∀ (p c : Nat), (List.range p).flatMap (fun i => (List.range c).map fun t => i * c + t) = List.range (p * c)
  | 0, c => by simp
  | p + 1, c => by
    rw [List.range_succ, List.flatMap_append, range_mul p c, Nat.add_one_mul, List.range_add]
    simp
theorem map_flat2 {α β γ : Type} {f : α → List β} {g : β → γ} (l : List α) : (l.flatMap f).map g = l.flatMap fun a => (f a).map g := by
  rw [List.map_flatMap]
theorem flat_congr {α β : Type} {f g : α → List β} : ∀ l : List α, (∀ a ∈ l, f a = g a) → l.flatMap f = l.flatMap g
  | [], _ => rfl
  | a :: l, h => by
    rw [List.flatMap_cons, List.flatMap_cons, h a List.mem_cons_self, flat_congr l fun b hb => h b (List.mem_cons_of_mem _ hb)]
/-- what is known of all tuples of colours -/
theorem allZ_ok : ∀ (n : Nat) (cs : List Nat), cs.length = n → (∀ zs ∈ allZ cs, Zs cs zs) ∧ (allZ cs).map (fun zs => placeN cs zs 0) = List.range (prodN cs)
  | 0, cs, h => by
    have : cs = [] := List.length_eq_zero_iff.mp h
    subst this
    refine ⟨fun zs hz => ?_, rfl⟩
    have : zs = [] := by simpa [allZ] using hz
    subst this
    exact ⟨rfl, fun i hi => by simp at hi⟩
  | n + 1, cs, h => by
    have hne : cs ≠ [] := by intro e; rw [e] at h; cases h
    have e : cs = cs.dropLast ++ [cs.getLast hne] := (List.dropLast_concat_getLast hne).symm
    have hl : cs.dropLast.length = n := by rw [List.length_dropLast, h]; rfl
    obtain ⟨h1, h2⟩ := allZ_ok n cs.dropLast hl
    generalize cs.getLast hne = c at e
    generalize cs.dropLast = ds at e h1 h2 hl
    subst e
    refine ⟨fun zs hz => ?_, ?_⟩
    · rw [allZ_snoc] at hz
      obtain ⟨o, ho, hz⟩ := List.mem_flatMap.mp hz
      obtain ⟨t, ht, rfl⟩ := List.mem_map.mp hz
      have h3 := h1 o ho
      refine ⟨by rw [List.length_append, List.length_append, h3.1]; rfl, fun i hi => ?_⟩
      rw [List.length_append] at hi
      by_cases hlt : i < ds.length
      · rw [getD_l (by rw [h3.1]; exact hlt), getD_l hlt]; exact h3.2 i hlt
      · have : i = ds.length := by simp at hi; omega
        rw [getD_r (by rw [h3.1]; exact this), getD_r this]
        exact List.mem_range.mp ht
    · rw [allZ_snoc, prodN_snoc, ← range_mul, ← h2]
      unfold stepZ
      rw [List.map_flatMap, List.flatMap_map]
      refine flat_congr _ fun o ho => ?_
      rw [List.map_map]
      congr 1
      funext t
      exact place_snoc ds o 0 c t (h1 o ho).1
theorem allZ_len (cs : List Nat) : (allZ cs).length = prodN cs := by
  have := congrArg List.length (allZ_ok _ cs rfl).2
  rwa [List.length_map, List.length_range] at this
/-- a row read at all places is the row -/
theorem row_all {cs : List Nat} {row : List Int} (h : row.length = prodN cs) : (allZ cs).map (fun zs => row.getD (placeN cs zs 0) 0) = row := by
  have e : (allZ cs).map (fun zs => row.getD (placeN cs zs 0) 0) = ((allZ cs).map (fun zs => placeN cs zs 0)).map fun i => row.getD i 0 := by
    rw [List.map_map]; rfl
  rw [e, (allZ_ok _ cs rfl).2, ← h]
  apply List.ext_getElem
  · rw [List.length_map, List.length_range]
  · intro i h1 h2
    rw [List.getElem_map, List.getElem_range, List.getD_eq_getElem?_getD, List.getElem?_eq_getElem h2]
    rfl
local macro_rules | `(tactic| fail "w") => `(tactic| first
  | with_reducible refine wSs_cons ?_ | with_reducible refine wSs_nil ?_ | with_reducible refine wS_asg ?_ | with_reducible refine wS_ret ?_ | with_reducible refine wS_ite ?_ | with_reducible refine wS_ex ?_ | with_reducible refine wS_unp ?_ | with_reducible refine wS_for ?_
  | ((with_reducible refine wS_mutO ?_ ?_); exact rfl) | ((with_reducible apply exMg); exact rfl; exact rfl; exact rfl; exact rfl; exact rfl) | ((with_reducible apply exMo); exact rfl; exact rfl; exact rfl; exact rfl)
  | with_reducible refine wS_raise ?_ | with_reducible refine wS_retN ?_ | with_reducible refine wS_par ?_ | with_reducible refine wS_pass ?_ | with_reducible refine wS_tryC ?_
  | with_reducible refine wE_k ?_ | ((with_reducible apply wE_nm); exact rfl) | ((with_reducible apply wE_fz); exact rfl) | ((with_reducible apply wE_fzO); exact rfl) | with_reducible refine wE_op ?_ | with_reducible refine wE_glob ?_ | with_reducible refine wE_call ?_ | with_reducible refine wE_tup ?_ | with_reducible refine wE_lst ?_
  | with_reducible refine wE_chain ?_ | with_reducible refine wE_and ?_ | with_reducible refine wE_or ?_ | with_reducible refine wE_not ?_ | with_reducible refine wE_ife ?_ | with_reducible refine wE_asI ?_
  | with_reducible refine wEs_nil ?_ | with_reducible refine wEs_cons ?_
  | with_reducible refine wT_op ?_ | with_reducible refine wT_lst ?_ | with_reducible refine wT_call ?_ | with_reducible refine wT_lc ?_ | with_reducible refine wT_lcIf ?_ | with_reducible refine wT_lc2 ?_ | ((with_reducible apply wT_of); exact rfl)
  | with_reducible refine wE_lc ?_ | with_reducible refine wE_lcIf ?_ | with_reducible refine wE_lc2 ?_
  | with_reducible refine wI_seq ?_ | with_reducible refine wI_rng ?_ | with_reducible refine wI_rng2 ?_ | with_reducible refine wI_zip2 ?_ | with_reducible refine wI_zip3 ?_)
local macro_rules | `(tactic| fail "v") => `(tactic| first
  | with_reducible refine wSs_nil ?_ | with_reducible refine wS_asg ?_ | with_reducible refine wS_ret ?_ | with_reducible refine wS_ite ?_ | with_reducible refine wS_ex ?_ | with_reducible refine wS_unp ?_ | with_reducible refine wS_for ?_
  | ((with_reducible refine wS_mutO ?_ ?_); exact rfl) | ((with_reducible apply exMg); exact rfl; exact rfl; exact rfl; exact rfl; exact rfl) | ((with_reducible apply exMo); exact rfl; exact rfl; exact rfl; exact rfl)
  | with_reducible refine wS_raise ?_ | with_reducible refine wS_retN ?_ | with_reducible refine wS_par ?_ | with_reducible refine wS_pass ?_ | with_reducible refine wS_tryC ?_
  | with_reducible refine wE_k ?_ | ((with_reducible apply wE_nm); exact rfl) | ((with_reducible apply wE_fz); exact rfl) | ((with_reducible apply wE_fzO); exact rfl) | with_reducible refine wE_op ?_ | with_reducible refine wE_glob ?_ | with_reducible refine wE_call ?_ | with_reducible refine wE_tup ?_ | with_reducible refine wE_lst ?_
  | with_reducible refine wE_chain ?_ | with_reducible refine wE_and ?_ | with_reducible refine wE_or ?_ | with_reducible refine wE_not ?_ | with_reducible refine wE_ife ?_ | with_reducible refine wE_asI ?_
  | with_reducible refine wEs_nil ?_ | with_reducible refine wEs_cons ?_
  | with_reducible refine wT_op ?_ | with_reducible refine wT_lst ?_ | with_reducible refine wT_call ?_ | with_reducible refine wT_lc ?_ | with_reducible refine wT_lcIf ?_ | with_reducible refine wT_lc2 ?_ | ((with_reducible apply wT_of); exact rfl)
  | with_reducible refine wE_lc ?_ | with_reducible refine wE_lcIf ?_ | with_reducible refine wE_lc2 ?_
  | with_reducible refine wI_seq ?_ | with_reducible refine wI_rng ?_ | with_reducible refine wI_rng2 ?_ | with_reducible refine wI_zip2 ?_ | with_reducible refine wI_zip3 ?_)
set_option hygiene false in
local macro_rules | `(tactic| fail "x") => `(tactic| first | ((with_reducible apply exB); exact rfl) | ((with_reducible apply exVf); exact rfl; exact rfl) | ((with_reducible apply exVo); exact rfl; exact rfl) | ((with_reducible apply exO); exact rfl) | ((with_reducible apply exU); exact rfl) | ((with_reducible refine fun hk => ?_); cases hk) | with_reducible refine fun hk => ?_)
local macro_rules | `(tactic| fail "c") => `(tactic| first
  | ((with_reducible apply call_whole); assumption; exact rfl)
  | ((with_reducible apply call_within); assumption; exact rfl)
  | ((with_reducible apply call_rising); assumption; exact rfl)
  | ((with_reducible apply call_system); assumption; exact rfl)
  | ((with_reducible apply call_checkSy); assumption; exact rfl; assumption))
local macro_rules | `(tactic| fail "go") => `(tactic| repeat' (first | fail "w" | fail "x" | fail "c"))
local macro_rules | `(tactic| fail "gs") => `(tactic| repeat' (first | fail "v" | fail "x" | fail "c"))
theorem law_goes_ok {Fs : Nat → Fn} : LGoesOk ⟨true, 3, fnRun Fs 5 B_law_goes⟩ := by
  refine ⟨rfl, rfl, fun w z zs hw hz hzs => fnRun_go (sl := [some (.dat w.enc), some (.dat (.int z)), some (.dat (nT zs)), none, none]) rfl ?_⟩
  unfold B_law_goes
  have h1 := hw.cs.l1
  have h3 := hw.cs.l3
  have hzl := hzs.1
  fail "go"
  refine exO (op_rng (mid_of (by omega) (by rw [List.length_map]; omega))) ?_
  refine ⟨fun j r => ∃ o4, Jk o4 ∧ r = ⟨[some (.dat w.enc), some (.dat (.int z)), some (.dat (nT zs)), some (.dat (.int (placeN (w.cs.take j) (zs.take j) 0 : Nat))), o4], []⟩, ⟨none, trivial, rfl⟩, ?_, ?_⟩
  · rintro j x _ e ⟨o4, h4, rfl⟩
    obtain ⟨rfl, hj⟩ := rngD_at e
    rw [List.length_map] at hj
    have hjc : j < w.cs.length := by omega
    have hjz : j < zs.length := by omega
    have hcc := hw.cs.c _ (List.getElem_mem hjc)
    have ec : w.cs[j]? = some w.cs[j] := List.getElem?_eq_getElem hjc
    have ez : zs[j]? = some zs[j] := List.getElem?_eq_getElem hjz
    refine ⟨_, wr_jk h4, ?_⟩
    fail "go"
    refine exO (op_idxT (atD_int (i := j) (by omega) (x := .int (w.cs[j] : Nat)) (by rw [List.getElem?_map, ec]; rfl))) ?_
    fail "go"
    refine exO (op_of rfl (f_mulR (small_of (by omega) (by omega)))) ?_
    fail "go"
    refine exO (op_idxT (atD_int (i := j) (by omega) (x := .int (zs[j] : Nat)) (by rw [List.getElem?_map, ez]; rfl))) ?_
    fail "go"
    exact ⟨_, jk_dat, by rw [place_take (cs := w.cs) (zs := zs) (j := j) (c := w.cs[j]) (z := zs[j]) w.cs zs j 0 _ _ ec ez]; rfl⟩
  · rintro _ ⟨o4, h4, rfl⟩
    rw [rngD_lenN, List.length_map]
    have e : ((zs.length : Int) - 0).toNat = zs.length := by omega
    rw [e, List.take_length, hzl, List.take_length]
    fail "go"
    · refine exO (op_idxT (atD_nat (row_at hz))) ?_
      fail "go"
      refine exO (op_idxT (atD_nat (cell_at (by rw [hw.rl hz]; exact hzs.place)))) ?_
      fail "go"
      rfl
end Mp
set_option Elab.async false
set_option linter.all false
set_option maxRecDepth 100000
set_option maxHeartbeats 2000000
/-! P04c: the law's choices (plain Lean) -/
namespace Mp
open PySem
def lsD (cs : List Nat) : D := .list (cs.map fun c => PyData.list ((List.range c).map fun (n : Nat) => PyData.int (n : Int)))
structure ChoicesOk (F : Fn) : Prop where
  pu : F.pu = true
  n : F.n = 1
  run : ∀ cs, CsOk cs → CR.at (fun v _ => v = .own (.list ((allZ cs).map nT)) ∨ v = .dat (.list ((allZ cs).map nT))) (fun _ _ => False) (F.run [.dat (lsD cs)] [])
theorem allZ_take {cs : List Nat} {j c : Nat} (e : cs[j]? = some c) : allZ (cs.take (j + 1)) = stepZ (allZ (cs.take j)) c := by
  rw [List.take_add_one, e]
  exact allZ_snoc _ _
theorem stepZ_take {l : List (List Nat)} {i c : Nat} {o : List Nat} (e : l[i]? = some o) : stepZ (l.take (i + 1)) c = stepZ (l.take i) c ++ (List.range c).map fun t => o ++ [t] := by
  unfold stepZ
  rw [List.take_add_one, e]
  simp
theorem CsOk.take {cs : List Nat} (h : CsOk cs) (j : Nat) : (allZ (cs.take j)).length ≤ 64 := by
  rw [allZ_len]
  have h1 := prod_bd (cs.take j) 1 (fun c hc => h.c c (List.mem_of_mem_take hc)) (Nat.le_refl 1)
  have h2 : (cs.take j).length ≤ 3 := by rw [List.length_take]; have := h.l3; omega
  have h3 : 4 ^ (cs.take j).length ≤ 4 ^ 3 := Nat.pow_le_pow_right (by decide) h2
  have : prodN (cs.take j) ≤ 1 * 4 ^ (cs.take j).length := h1.2
  omega
theorem len_z {cs : List Nat} {o : List Nat} (h : o ∈ allZ cs) : o.length = cs.length := ((allZ_ok _ cs rfl).1 o h).1
theorem map_flat1 {α β : Type} {f : α → β} : ∀ l : List α, (l.flatMap fun x => [f x]) = l.map f
  | [] => rfl
  | a :: l => by rw [List.flatMap_cons, map_flat1 l]; rfl
local macro_rules | `(tactic| fail "w") => `(tactic| first
  | with_reducible refine wSs_cons ?_ | with_reducible refine wSs_nil ?_ | with_reducible refine wS_asg ?_ | with_reducible refine wS_ret ?_ | with_reducible refine wS_ite ?_ | with_reducible refine wS_ex ?_ | with_reducible refine wS_unp ?_ | with_reducible refine wS_for ?_
  | ((with_reducible refine wS_mutO ?_ ?_); exact rfl) | ((with_reducible apply exMg); exact rfl; exact rfl; exact rfl; exact rfl; exact rfl) | ((with_reducible apply exMo); exact rfl; exact rfl; exact rfl; exact rfl)
  | with_reducible refine wS_raise ?_ | with_reducible refine wS_retN ?_ | with_reducible refine wS_par ?_ | with_reducible refine wS_pass ?_ | with_reducible refine wS_tryC ?_
  | with_reducible refine wE_k ?_ | ((with_reducible apply wE_nm); exact rfl) | ((with_reducible apply wE_fz); exact rfl) | ((with_reducible apply wE_fzO); exact rfl) | with_reducible refine wE_op ?_ | with_reducible refine wE_glob ?_ | with_reducible refine wE_call ?_ | with_reducible refine wE_tup ?_ | with_reducible refine wE_lst ?_
  | with_reducible refine wE_chain ?_ | with_reducible refine wE_and ?_ | with_reducible refine wE_or ?_ | with_reducible refine wE_not ?_ | with_reducible refine wE_ife ?_ | with_reducible refine wE_asI ?_
  | with_reducible refine wEs_nil ?_ | with_reducible refine wEs_cons ?_
  | with_reducible refine wT_op ?_ | with_reducible refine wT_lst ?_ | with_reducible refine wT_call ?_ | with_reducible refine wT_lc ?_ | with_reducible refine wT_lcIf ?_ | with_reducible refine wT_lc2 ?_ | ((with_reducible apply wT_of); exact rfl)
  | with_reducible refine wE_lc ?_ | with_reducible refine wE_lcIf ?_ | with_reducible refine wE_lc2 ?_
  | with_reducible refine wI_seq ?_ | with_reducible refine wI_rng ?_ | with_reducible refine wI_rng2 ?_ | with_reducible refine wI_zip2 ?_ | with_reducible refine wI_zip3 ?_)
local macro_rules | `(tactic| fail "v") => `(tactic| first
  | with_reducible refine wSs_nil ?_ | with_reducible refine wS_asg ?_ | with_reducible refine wS_ret ?_ | with_reducible refine wS_ite ?_ | with_reducible refine wS_ex ?_ | with_reducible refine wS_unp ?_ | with_reducible refine wS_for ?_
  | ((with_reducible refine wS_mutO ?_ ?_); exact rfl) | ((with_reducible apply exMg); exact rfl; exact rfl; exact rfl; exact rfl; exact rfl) | ((with_reducible apply exMo); exact rfl; exact rfl; exact rfl; exact rfl)
  | with_reducible refine wS_raise ?_ | with_reducible refine wS_retN ?_ | with_reducible refine wS_par ?_ | with_reducible refine wS_pass ?_ | with_reducible refine wS_tryC ?_
  | with_reducible refine wE_k ?_ | ((with_reducible apply wE_nm); exact rfl) | ((with_reducible apply wE_fz); exact rfl) | ((with_reducible apply wE_fzO); exact rfl) | with_reducible refine wE_op ?_ | with_reducible refine wE_glob ?_ | with_reducible refine wE_call ?_ | with_reducible refine wE_tup ?_ | with_reducible refine wE_lst ?_
  | with_reducible refine wE_chain ?_ | with_reducible refine wE_and ?_ | with_reducible refine wE_or ?_ | with_reducible refine wE_not ?_ | with_reducible refine wE_ife ?_ | with_reducible refine wE_asI ?_
  | with_reducible refine wEs_nil ?_ | with_reducible refine wEs_cons ?_
  | with_reducible refine wT_op ?_ | with_reducible refine wT_lst ?_ | with_reducible refine wT_call ?_ | with_reducible refine wT_lc ?_ | with_reducible refine wT_lcIf ?_ | with_reducible refine wT_lc2 ?_ | ((with_reducible apply wT_of); exact rfl)
  | with_reducible refine wE_lc ?_ | with_reducible refine wE_lcIf ?_ | with_reducible refine wE_lc2 ?_
  | with_reducible refine wI_seq ?_ | with_reducible refine wI_rng ?_ | with_reducible refine wI_rng2 ?_ | with_reducible refine wI_zip2 ?_ | with_reducible refine wI_zip3 ?_)
set_option hygiene false in
local macro_rules | `(tactic| fail "x") => `(tactic| first | ((with_reducible apply exB); exact rfl) | ((with_reducible apply exVf); exact rfl; exact rfl) | ((with_reducible apply exVo); exact rfl; exact rfl) | ((with_reducible apply exO); exact rfl) | ((with_reducible apply exU); exact rfl) | ((with_reducible refine fun hk => ?_); cases hk) | with_reducible refine fun hk => ?_)
local macro_rules | `(tactic| fail "c") => `(tactic| first
  | ((with_reducible apply call_whole); assumption; exact rfl)
  | ((with_reducible apply call_within); assumption; exact rfl)
  | ((with_reducible apply call_rising); assumption; exact rfl)
  | ((with_reducible apply call_system); assumption; exact rfl)
  | ((with_reducible apply call_checkSy); assumption; exact rfl; assumption))
local macro_rules | `(tactic| fail "go") => `(tactic| repeat' (first | fail "w" | fail "x" | fail "c"))
local macro_rules | `(tactic| fail "gs") => `(tactic| repeat' (first | fail "v" | fail "x" | fail "c"))
theorem choices_ok {Fs : Nat → Fn} : ChoicesOk ⟨true, 1, fnRun Fs 6 B_law_choices⟩ := by
  refine ⟨rfl, rfl, fun cs hc => fnRun_go (sl := [some (.dat (lsD cs)), none, none, none, none, none]) rfl ?_⟩
  unfold B_law_choices
  have hc3 := hc.l3
  fail "go"
  refine ⟨fun j r => ∃ o1 o2 o3 o4 o5, (o1 = some (.own (.list ((allZ (cs.take j)).map nT))) ∨ o1 = some (.dat (.list ((allZ (cs.take j)).map nT)))) ∧ (Jk o2 ∧ Jk o3 ∧ Jk o4 ∧ Jk o5) ∧ r = ⟨[some (.dat (lsD cs)), o1, o2, o3, o4, o5], []⟩, ⟨_, none, none, none, none, .inl rfl, ⟨trivial, trivial, trivial, trivial⟩, rfl⟩, ?_, ?_⟩
  · rintro j x _ e ⟨o1, o2, o3, o4, o5, h1, ⟨h2, h3, h4, h5⟩, rfl⟩
    obtain ⟨c, ec, rfl⟩ : ∃ c, cs[j]? = some c ∧ PyData.list ((List.range c).map fun (n : Nat) => PyData.int (n : Int)) = x := by
      have e : (cs.map fun c => PyData.list ((List.range c).map fun (n : Nat) => PyData.int (n : Int)))[j]? = some x := e
      rw [List.getElem?_map] at e
      exact Option.map_eq_some_iff.mp e
    have hcc := hc.c c (List.mem_of_getElem? ec)
    have hL := hc.take j
    have hlen : ∀ o ∈ allZ (cs.take j), o.length ≤ 3 := fun o ho => by
      rw [len_z ho, List.length_take]; omega
    refine ⟨_, wr_jk h2, ?_⟩
    have eT := allZ_take ec
    generalize allZ (cs.take j) = l at h1 hL hlen eT
    rcases h1 with rfl | rfl
    · (fail "go"
       refine ⟨_, wr_jk (by exact h3), ?_⟩
       fail "go"
       refine ⟨fun i r => ∃ o4 o5, (Jk o4 ∧ Jk o5) ∧ r = ⟨[some (.dat (lsD cs)), some (.lck (.list (l.map nT))), some (.dat (.list ((List.range c).map fun (n : Nat) => PyData.int (n : Int)))), some (.own (.list ((stepZ (l.take i) c).map nT))), o4, o5], []⟩, ⟨_, _, ⟨h4, h5⟩, rfl⟩, ?_, ?_⟩
       · rintro i x _ e ⟨o4, o5, ⟨h4, h5⟩, rfl⟩
         obtain ⟨o, eo, rfl⟩ : ∃ o, l[i]? = some o ∧ nT o = x := by
           have e : (l.map nT)[i]? = some x := e
           rw [List.getElem?_map] at e
           exact Option.map_eq_some_iff.mp e
         have hol := hlen o (List.mem_of_getElem? eo)
         refine ⟨_, wr_jk (by exact h4), ?_⟩
         fail "go"
         refine comp_map (fun t => [nT (o ++ [(toI t).toNat])]) (fun r => ∃ o5, r = ⟨[some (.dat (lsD cs)), some (.lck (.list (l.map nT))), some (.dat (.list ((List.range c).map fun (n : Nat) => PyData.int (n : Int)))), some (.own (.list ((stepZ (l.take i) c).map nT))), some (.dat (nT o)), o5], []⟩) ?_
         fail "go"
         refine ⟨rfl, rfl, ⟨_, rfl⟩, ?_, ?_, ?_⟩
         · rintro x hx _ ⟨o5, rfl⟩
           obtain ⟨t, ht, rfl⟩ := List.mem_map.mp hx
           refine ⟨_, rfl, elt1_wp ?_⟩
           fail "go"
           refine exO (add_nT (by omega)) ?_
           fail "go"
           exact ⟨rfl, _, rfl⟩
         · exact lim_of (Nat.le_trans (flat_len (m := 1) _ fun _ _ => Nat.le_refl 1) (by show ((List.range c).map _).length * 1 ≤ _; rw [List.length_map, List.length_range]; omega))
         · rintro _ ⟨o5', rfl⟩
           have ef : (((List.range c).map fun (n : Nat) => PyData.int (n : Int)).flatMap fun t => [nT (o ++ [(toI t).toNat])]) = ((List.range c).map fun t => o ++ [t]).map nT := by
             rw [List.flatMap_map, map_flat1, List.map_map]
             rfl
           dsimp only
           rw [ef]
           have hsz : (stepZ (l.take i) c).length ≤ 256 := by
             have h7 := flat_len (f := fun o => (List.range c).map fun t => o ++ [t]) (m := 4) (l.take i) fun _ _ => by rw [List.length_map, List.length_range]; exact hcc.2
             have h8 : (l.take i).length ≤ 64 := by rw [List.length_take]; omega
             unfold stepZ
             omega
           fail "go"
           refine exVo (op_of rfl (f_addL (lim_of (by rw [List.length_map, List.length_map, List.length_map, List.length_range]; omega)))) rfl ?_
           refine ⟨_, rfl, ?_⟩
           fail "go"
           refine ⟨some (.dat (nT o)), _, ⟨jk_dat, h5⟩, ?_⟩
           rw [stepZ_take eo, List.map_append]
           rfl
       · rintro _ ⟨o4, o5, ⟨h4, h5⟩, rfl⟩
         dsimp only
         rw [List.length_map, List.take_length]
         fail "go"
         refine ⟨some (.dat (.list ((stepZ l c).map nT))), _, _, _, _, .inr ?_, ⟨jk_dat, jk_dat, h4, h5⟩, rfl⟩
         rw [eT])
    · (fail "go"
       refine ⟨_, wr_jk (by exact h3), ?_⟩
       fail "go"
       refine ⟨fun i r => ∃ o4 o5, (Jk o4 ∧ Jk o5) ∧ r = ⟨[some (.dat (lsD cs)), some (.dat (.list (l.map nT))), some (.dat (.list ((List.range c).map fun (n : Nat) => PyData.int (n : Int)))), some (.own (.list ((stepZ (l.take i) c).map nT))), o4, o5], []⟩, ⟨_, _, ⟨h4, h5⟩, rfl⟩, ?_, ?_⟩
       · rintro i x _ e ⟨o4, o5, ⟨h4, h5⟩, rfl⟩
         obtain ⟨o, eo, rfl⟩ : ∃ o, l[i]? = some o ∧ nT o = x := by
           have e : (l.map nT)[i]? = some x := e
           rw [List.getElem?_map] at e
           exact Option.map_eq_some_iff.mp e
         have hol := hlen o (List.mem_of_getElem? eo)
         refine ⟨_, wr_jk (by exact h4), ?_⟩
         fail "go"
         refine comp_map (fun t => [nT (o ++ [(toI t).toNat])]) (fun r => ∃ o5, r = ⟨[some (.dat (lsD cs)), some (.dat (.list (l.map nT))), some (.dat (.list ((List.range c).map fun (n : Nat) => PyData.int (n : Int)))), some (.own (.list ((stepZ (l.take i) c).map nT))), some (.dat (nT o)), o5], []⟩) ?_
         fail "go"
         refine ⟨rfl, rfl, ⟨_, rfl⟩, ?_, ?_, ?_⟩
         · rintro x hx _ ⟨o5, rfl⟩
           obtain ⟨t, ht, rfl⟩ := List.mem_map.mp hx
           refine ⟨_, rfl, elt1_wp ?_⟩
           fail "go"
           refine exO (add_nT (by omega)) ?_
           fail "go"
           exact ⟨rfl, _, rfl⟩
         · exact lim_of (Nat.le_trans (flat_len (m := 1) _ fun _ _ => Nat.le_refl 1) (by show ((List.range c).map _).length * 1 ≤ _; rw [List.length_map, List.length_range]; omega))
         · rintro _ ⟨o5', rfl⟩
           have ef : (((List.range c).map fun (n : Nat) => PyData.int (n : Int)).flatMap fun t => [nT (o ++ [(toI t).toNat])]) = ((List.range c).map fun t => o ++ [t]).map nT := by
             rw [List.flatMap_map, map_flat1, List.map_map]
             rfl
           dsimp only
           rw [ef]
           have hsz : (stepZ (l.take i) c).length ≤ 256 := by
             have h7 := flat_len (f := fun o => (List.range c).map fun t => o ++ [t]) (m := 4) (l.take i) fun _ _ => by rw [List.length_map, List.length_range]; exact hcc.2
             have h8 : (l.take i).length ≤ 64 := by rw [List.length_take]; omega
             unfold stepZ
             omega
           fail "go"
           refine exVo (op_of rfl (f_addL (lim_of (by rw [List.length_map, List.length_map, List.length_map, List.length_range]; omega)))) rfl ?_
           refine ⟨_, rfl, ?_⟩
           fail "go"
           refine ⟨some (.dat (nT o)), _, ⟨jk_dat, h5⟩, ?_⟩
           rw [stepZ_take eo, List.map_append]
           rfl
       · rintro _ ⟨o4, o5, ⟨h4, h5⟩, rfl⟩
         dsimp only
         rw [List.length_map, List.take_length]
         fail "go"
         refine ⟨some (.dat (.list ((stepZ l c).map nT))), _, _, _, _, .inr ?_, ⟨jk_dat, jk_dat, h4, h5⟩, rfl⟩
         rw [eT])
  · rintro _ ⟨o1, o2, o3, o4, o5, h1, ⟨h2, h3, h4, h5⟩, rfl⟩
    dsimp only at h1
    rw [List.length_map, List.take_length] at h1
    rcases h1 with rfl | rfl
    · fail "go"
      exact wS_mvO rfl (.inl rfl)
    · fail "go"
      exact wS_mvD rfl (.inr rfl)
end Mp
set_option Elab.async false
set_option linter.all false
set_option maxRecDepth 100000
set_option maxHeartbeats 2000000
/-! P04d: the spoilt watchers of k04 (plain Lean) -/
namespace Mp
open PySem
def A4 (w : Wa) (at_ : Nat) (row : List Int) (k : Nat) (o6 o7 o9 : Option SV) (g : List GE) : Rho := ⟨[some (.gl 0), some (.dat w.enc), some (.dat (.int (w.rs.map iT).length)), some (.dat (.int at_)), some (.dat (iT row)), some (.dat (.int k)), o6, o7, none, o9, none, none, some (.dat (nT w.cs)), some (.dat (.tuple (w.rs.map iT)))], g⟩
def R1w (w : Wa) (at_ : Nat) (row : List Int) (k : Nat) (m : Nat) (r : Rho) : Prop := ∃ L g, (∀ x ∈ L, rowB (prodN w.cs) w.rs.length x = false) ∧ L.length ≤ m ∧ Bx g ∧ r = A4 w at_ row k (some (.own (.list L))) none none g
def R2w (w : Wa) (at_ : Nat) (row : List Int) (k : Nat) (m0 m : Nat) (r : Rho) : Prop := ∃ L o6 g, (∀ x ∈ L, watB x = false) ∧ (m0 ≤ L.length ∧ L.length ≤ m ∧ Jk o6) ∧ Bx g ∧ r = A4 w at_ row k o6 (some (.own (.list L))) none g
/-- a product of small numbers, one of them perhaps a truth value -/
structure TimesB (F : Fn) : Prop where
  pu : F.pu = true
  n : F.n = 1
  run : ∀ cs : List D, cs.length ≤ 3 → (∀ c ∈ cs, ∃ n : Nat, n ≤ 5 ∧ (c = .int n ∨ (c = .bool true ∧ n = 1))) → ∃ p : Nat, p ≤ 125 ∧ RetV (F.run [.dat (.tuple cs)] []) (.dat (.int p))
theorem mulV {v : Nat} (h : v ≤ 200) : ∃ M, f_mul [.tuple [.int (-1)], .int v] = some (.tuple M) := by
  unfold f_mul
  dsimp only
  by_cases h2 : 2 ≤ v
  · rw [if_pos ⟨by omega, by omega, by show 1 ≤ 1000; decide, rfl⟩]; exact ⟨_, rfl⟩
  · rw [if_neg (by omega)]
    by_cases h1 : v = 1
    · rw [if_pos (by omega)]; exact ⟨_, rfl⟩
    · rw [if_neg (by omega), if_pos ⟨by omega, rfl⟩]; exact ⟨_, rfl⟩
theorem mulL4 {x : D} : f_mul [.list [x], .int 4] = some (.list (repD 4 [x])) := by
  unfold f_mul
  dsimp only
  rw [mid_of (by decide) (by decide)]
  rfl
local macro_rules | `(tactic| fail "w") => `(tactic| first
  | with_reducible refine wSs_cons ?_ | with_reducible refine wSs_nil ?_ | with_reducible refine wS_asg ?_ | with_reducible refine wS_ret ?_ | with_reducible refine wS_ite ?_ | with_reducible refine wS_ex ?_ | with_reducible refine wS_unp ?_ | with_reducible refine wS_for ?_
  | ((with_reducible refine wS_mutO ?_ ?_); exact rfl) | ((with_reducible apply exMg); exact rfl; exact rfl; exact rfl; exact rfl; exact rfl) | ((with_reducible apply exMo); exact rfl; exact rfl; exact rfl; exact rfl)
  | with_reducible refine wS_raise ?_ | with_reducible refine wS_retN ?_ | with_reducible refine wS_par ?_ | with_reducible refine wS_pass ?_ | with_reducible refine wS_tryC ?_
  | with_reducible refine wE_k ?_ | ((with_reducible apply wE_nm); exact rfl) | ((with_reducible apply wE_fz); exact rfl) | ((with_reducible apply wE_fzO); exact rfl) | with_reducible refine wE_op ?_ | with_reducible refine wE_glob ?_ | with_reducible refine wE_call ?_ | with_reducible refine wE_tup ?_ | with_reducible refine wE_lst ?_
  | with_reducible refine wE_chain ?_ | with_reducible refine wE_and ?_ | with_reducible refine wE_or ?_ | with_reducible refine wE_not ?_ | with_reducible refine wE_ife ?_ | with_reducible refine wE_asI ?_
  | with_reducible refine wEs_nil ?_ | with_reducible refine wEs_cons ?_
  | with_reducible refine wT_op ?_ | with_reducible refine wT_lst ?_ | with_reducible refine wT_call ?_ | with_reducible refine wT_lc ?_ | with_reducible refine wT_lcIf ?_ | with_reducible refine wT_lc2 ?_ | ((with_reducible apply wT_of); exact rfl)
  | with_reducible refine wE_lc ?_ | with_reducible refine wE_lcIf ?_ | with_reducible refine wE_lc2 ?_
  | with_reducible refine wI_seq ?_ | with_reducible refine wI_rng ?_ | with_reducible refine wI_rng2 ?_ | with_reducible refine wI_zip2 ?_ | with_reducible refine wI_zip3 ?_)
local macro_rules | `(tactic| fail "v") => `(tactic| first
  | with_reducible refine wSs_nil ?_ | with_reducible refine wS_asg ?_ | with_reducible refine wS_ret ?_ | with_reducible refine wS_ite ?_ | with_reducible refine wS_ex ?_ | with_reducible refine wS_unp ?_ | with_reducible refine wS_for ?_
  | ((with_reducible refine wS_mutO ?_ ?_); exact rfl) | ((with_reducible apply exMg); exact rfl; exact rfl; exact rfl; exact rfl; exact rfl) | ((with_reducible apply exMo); exact rfl; exact rfl; exact rfl; exact rfl)
  | with_reducible refine wS_raise ?_ | with_reducible refine wS_retN ?_ | with_reducible refine wS_par ?_ | with_reducible refine wS_pass ?_ | with_reducible refine wS_tryC ?_
  | with_reducible refine wE_k ?_ | ((with_reducible apply wE_nm); exact rfl) | ((with_reducible apply wE_fz); exact rfl) | ((with_reducible apply wE_fzO); exact rfl) | with_reducible refine wE_op ?_ | with_reducible refine wE_glob ?_ | with_reducible refine wE_call ?_ | with_reducible refine wE_tup ?_ | with_reducible refine wE_lst ?_
  | with_reducible refine wE_chain ?_ | with_reducible refine wE_and ?_ | with_reducible refine wE_or ?_ | with_reducible refine wE_not ?_ | with_reducible refine wE_ife ?_ | with_reducible refine wE_asI ?_
  | with_reducible refine wEs_nil ?_ | with_reducible refine wEs_cons ?_
  | with_reducible refine wT_op ?_ | with_reducible refine wT_lst ?_ | with_reducible refine wT_call ?_ | with_reducible refine wT_lc ?_ | with_reducible refine wT_lcIf ?_ | with_reducible refine wT_lc2 ?_ | ((with_reducible apply wT_of); exact rfl)
  | with_reducible refine wE_lc ?_ | with_reducible refine wE_lcIf ?_ | with_reducible refine wE_lc2 ?_
  | with_reducible refine wI_seq ?_ | with_reducible refine wI_rng ?_ | with_reducible refine wI_rng2 ?_ | with_reducible refine wI_zip2 ?_ | with_reducible refine wI_zip3 ?_)
set_option hygiene false in
local macro_rules | `(tactic| fail "x") => `(tactic| first | ((with_reducible apply exB); exact rfl) | ((with_reducible apply exVf); exact rfl; exact rfl) | ((with_reducible apply exVo); exact rfl; exact rfl) | ((with_reducible apply exO); exact rfl) | ((with_reducible apply exU); exact rfl) | ((with_reducible refine fun hk => ?_); cases hk) | with_reducible refine fun hk => ?_)
local macro_rules | `(tactic| fail "c") => `(tactic| first
  | ((with_reducible apply call_whole); assumption; exact rfl)
  | ((with_reducible apply call_within); assumption; exact rfl)
  | ((with_reducible apply call_rising); assumption; exact rfl)
  | ((with_reducible apply call_system); assumption; exact rfl)
  | ((with_reducible apply call_checkSy); assumption; exact rfl; assumption))
local macro_rules | `(tactic| fail "go") => `(tactic| repeat' (first | fail "w" | fail "x" | fail "c"))
local macro_rules | `(tactic| fail "gs") => `(tactic| repeat' (first | fail "v" | fail "x" | fail "c"))
theorem timesB_ok {Fs : Nat → Fn} : TimesB ⟨true, 1, fnRun Fs 3 B_law_times⟩ := by
  refine ⟨rfl, rfl, fun cs hl hc => ?_⟩
  have h : CR.at (fun v _ => ∃ p : Nat, p ≤ 125 ∧ v = .dat (.int p)) (fun _ _ => False) (fnRun Fs 3 B_law_times [.dat (.tuple cs)] []) := by
    refine fnRun_go (sl := [some (.dat (.tuple cs)), none, none]) rfl ?_
    unfold B_law_times
    fail "go"
    refine ⟨fun j r => ∃ (o : Option SV) (p : Nat), (Jk o ∧ p ≤ 5 ^ j) ∧ r = ⟨[some (.dat (.tuple cs)), some (.dat (.int p)), o], []⟩, ⟨none, 1, ⟨trivial, by decide⟩, rfl⟩, ?_, ?_⟩
    · rintro j x _ e ⟨o, p, ⟨ho, hp⟩, rfl⟩
      replace e : cs[j]? = some x := e
      obtain ⟨n, hn, hx⟩ := hc x (List.mem_of_getElem? e)
      refine ⟨_, wr_jk ho, ?_⟩
      have h5 : p * n ≤ 5 ^ (j + 1) := by rw [Nat.pow_succ]; exact Nat.mul_le_mul hp hn
      rcases hx with rfl | ⟨rfl, rfl⟩
      · fail "go"
        refine exVf (op_of rfl (f_mulR (small_of (by omega) (by omega)))) rfl ?_
        fail "go"
        exact ⟨_, p * n, ⟨jk_dat, h5⟩, by rw [Int.natCast_mul]; rfl⟩
      · fail "go"
        refine ⟨some (.dat (.bool true)), p, ⟨jk_dat, by omega⟩, ?_⟩
        have ht : ((p : Int) * if true = true then 1 else 0) = p := by simp
        show (⟨[some (.dat (.tuple cs)), some (.dat (.int ((p : Int) * if true = true then 1 else 0))), some (.dat (.bool true))], []⟩ : Rho) = _
        rw [ht]
    · rintro _ ⟨o, p, ⟨ho, hp⟩, rfl⟩
      fail "go"
      refine wS_mvD rfl ⟨p, Nat.le_trans hp ?_, rfl⟩
      have : 5 ^ cs.length ≤ 5 ^ 3 := Nat.pow_le_pow_right (by decide) hl
      exact this
  obtain ⟨v, g, e, p, hp, rfl⟩ := CR.at_ret h
  refine ⟨p, hp, ?_⟩
  show RetV (fnRun Fs 3 B_law_times [.dat (.tuple cs)] []) _
  rw [e]
  rfl
theorem bad_watcher4 {Fs : Nat → Fn} (ht : TakeOk (Fs 20)) (hp : PickOk (Fs 21)) (hm : TimesB (Fs 22)) : BadWOk ⟨false, 2, fnRun Fs 14 K04.b26⟩ := by
  refine ⟨rfl, rfl, fun g w hg hw => fnRun_go (sl := [some (.gl 0), some (.dat w.enc), none, none, none, none, none, none, none, none, none, none, none, none]) rfl ?_⟩
  unfold K04.b26
  have hn1 := hw.l1
  have hn6 := hw.l6
  have hpr := hw.cs.prod
  have hc1 := hw.cs.l1
  have hc3 := hw.cs.l3
  have hrl : (w.rs.map iT).length = w.rs.length := List.length_map _
  have hcl : (w.cs.map fun (n : Nat) => PyData.int (n : Int)).length = w.cs.length := List.length_map _
  fail "go"
  refine call_take ht rfl hg ⟨by omega, by omega⟩ fun at_ g1 hat hg1 => ?_
  have hat' : at_ < w.rs.length := by omega
  obtain ⟨hrow, hrx⟩ := hw.rs _ (List.getElem_mem hat')
  have her : (w.rs.map iT)[at_]? = some (iT w.rs[at_]) := by rw [List.getElem?_map, List.getElem?_eq_getElem hat']; rfl
  generalize w.rs[at_] = row at hrow hrx her
  have hrwl : (row.map fun (n : Int) => PyData.int n).length = prodN w.cs := by rw [List.length_map, hrow]
  fail "go"
  refine exVf (op_idxT (atD_nat her)) rfl ?_
  fail "go"
  refine call_take ht rfl hg1 ⟨by omega, by omega⟩ fun k g2 hk2 hg2 => ?_
  fail "gs"
  refine wSs_at (r' := A4 w at_ row k none none none g2) rfl ?_
  have hk' : k < prodN w.cs := by omega
  have hcut : cutD (row.map fun (n : Int) => PyData.int n) none (some (k : Int)) = (row.map fun (n : Int) => PyData.int n).take k := cut_lo (by omega)
  have hcut2 : cutD (row.map fun (n : Int) => PyData.int n) (some ((k : Int) + 1)) none = (row.map fun (n : Int) => PyData.int n).drop (k + 1) := cut_hi (by omega) (by omega)
  have hcut3 : cutD (row.map fun (n : Int) => PyData.int n) (some 1) none = (row.map fun (n : Int) => PyData.int n).drop 1 := cut_hi (a := 1) rfl (by omega)
  have hB1 : ∀ x ∈ [PyData.int (w.rs.map iT).length, .int (-2), .bool true, .none, .str "0", .tuple [.int 0]], withinB x (-1) ((w.rs.length : Int) - 1) = false := by
    intro x hx
    simp only [List.mem_cons, List.mem_nil_iff, or_false] at hx
    rcases hx with rfl | rfl | rfl | rfl | rfl | rfl
    all_goals try rfl
    all_goals (simp [withinB]; try omega)
  refine wSs_cut (R1w w at_ row k 20) ?_ ?_
  · fail "go"
    refine exO (op_addT (lim_of (by rw [List.length_append, hrwl]; simp; omega))) ?_
    fail "go"
    refine exO (op_of rfl (f_mulX (by omega) (by omega))) ?_
    fail "go"
    refine comp_map (fun x => [.tuple ((row.map fun (n : Int) => PyData.int n).take k ++ [x] ++ (row.map fun (n : Int) => PyData.int n).drop (k + 1))]) (fun r => ∃ o10, r = A4 w at_ row k none none o10 g2) ?_
    fail "go"
    refine ⟨rfl, rfl, ⟨none, rfl⟩, ?_, ?_, ?_⟩
    · rintro x hx _ ⟨o10, rfl⟩
      refine ⟨_, rfl, elt1_wp ?_⟩
      fail "go"
      rw [hcut]
      refine exO (op_addT (lim_of (by rw [List.length_append, List.length_take]; simp; omega))) ?_
      fail "go"
      rw [hcut2]
      refine exO (op_addT (lim_of (by rw [List.length_append, List.length_append, List.length_take, List.length_drop]; simp; omega))) ?_
      fail "go"
      exact ⟨rfl, _, rfl⟩
    · exact lim_of (Nat.le_trans (flat_len (m := 1) _ fun _ _ => Nat.le_refl 1) (by simp))
    · rintro _ ⟨o10, rfl⟩
      have hfl := flat_len (f := fun x => [PyData.tuple ((row.map fun (n : Int) => PyData.int n).take k ++ [x] ++ (row.map fun (n : Int) => PyData.int n).drop (k + 1))]) (m := 1) [PyData.int (w.rs.map iT).length, .int (-2), .bool true, .none, .str "0", .tuple [.int 0]] fun _ _ => Nat.le_refl 1
      simp only [List.length_cons, List.length_nil] at hfl
      fail "go"
      refine ⟨_, g2, ?_, ?_, hg2, rfl⟩
      · intro x hx
        rcases List.mem_append.mp hx with h | h
        · clear hx
          rw [hcut3] at h
          simp only [List.mem_cons, List.mem_nil_iff, or_false] at h
          rcases h with rfl | rfl | rfl | rfl | rfl | rfl
          all_goals try rfl
          all_goals (refine row_len ?_)
          · rw [List.length_append, hrwl]; simp; omega
          · rw [List.length_drop, hrwl]; omega
          · rw [repD_len, hrwl]; simp; omega
        · obtain ⟨y, hy, h⟩ := List.mem_flatMap.mp h
          rw [List.mem_singleton.mp h]
          exact row_in (x := y) (by simp) (hB1 y hy)
      · rw [List.length_append]
        exact Nat.le_trans (Nat.add_le_add_left hfl _) (by show 6 + 6 ≤ 20; decide)
  rintro _ ⟨L, g3, hL, hl, hg3, rfl⟩
  have hcutS : cutD (w.rs.map iT) none (some (at_ : Int)) = (w.rs.map iT).take at_ := cut_lo (by omega)
  have hcutS2 : cutD (w.rs.map iT) (some ((at_ : Int) + 1)) none = (w.rs.map iT).drop (at_ + 1) := cut_hi (by omega) (by omega)
  have hclS : ∀ x : D, ((w.rs.map iT).take at_ ++ [x] ++ (w.rs.map iT).drop (at_ + 1)).length = w.rs.length := by
    intro x
    rw [List.length_append, List.length_append, List.length_take, List.length_drop, hrl]
    simp
    omega
  refine wSs_cut (R2w w at_ row k 0 20) ?_ ?_
  · fail "go"
    refine comp_map (fun x => [.tuple [nT w.cs, .tuple ((w.rs.map iT).take at_ ++ [x] ++ (w.rs.map iT).drop (at_ + 1))]]) (fun r => ∃ o10, r = A4 w at_ row k (some (.lck (.list L))) none o10 g3) ?_
    fail "go"
    refine ⟨rfl, rfl, ⟨none, rfl⟩, ?_, ?_, ?_⟩
    · rintro x hx _ ⟨o10, rfl⟩
      refine ⟨_, rfl, elt1_wp ?_⟩
      fail "go"
      rw [hcutS]
      refine exO (op_addT (lim_of (by rw [List.length_append, List.length_take]; simp; omega))) ?_
      fail "go"
      rw [hcutS2]
      refine exO (op_addT (lim_of (by have := hclS x; simp only [List.length_cons, List.length_nil] at this ⊢; rw [this]; omega))) ?_
      fail "go"
      exact ⟨rfl, _, rfl⟩
    · exact lim_of (Nat.le_trans (flat_len (m := 1) _ fun _ _ => Nat.le_refl 1) (by show L.length * 1 ≤ _; omega))
    · rintro _ ⟨o10, rfl⟩
      refine ⟨_, rfl, ?_⟩
      fail "go"
      refine ⟨_, _, g3, ?_, ⟨?_, ?_, ?_⟩, hg3, rfl⟩
      · intro x hx
        obtain ⟨y, hy, h⟩ := List.mem_flatMap.mp hx
        rw [List.mem_singleton.mp h]
        refine wat_state (x := y) (by simp) ?_
        rw [hclS, prodI_N]
        exact hL y hy
      · exact Nat.zero_le _
      · exact Nat.le_trans (flat_len (m := 1) _ fun _ _ => Nat.le_refl 1) (by show L.length * 1 ≤ _; omega)
      · exact jk_own
  clear hL hl L hg3 g3
  rintro _ ⟨L, o6, g3, hL, ⟨h0, hl, j6⟩, hg3, rfl⟩
  refine wSs_cut (R2w w at_ row k 18 50) ?_ ?_
  · have hc1' : ((w.cs.map fun (n : Nat) => PyData.int (n : Int)).drop 1).length ≤ 3 := by rw [List.length_drop]; omega
    have hcutC : cutD (w.cs.map fun (n : Nat) => PyData.int (n : Int)) (some 1) none = (w.cs.map fun (n : Nat) => PyData.int (n : Int)).drop 1 := cut_hi (a := 1) rfl (by omega)
    fail "go"
    refine exO (op_of rfl (f_mulN (by decide) (by decide) (by omega) (by omega))) ?_
    fail "go"
    rw [hcutC]
    refine exO (op_addT (lim_of (by rw [List.length_append]; simp only [List.length_cons, List.length_nil]; omega))) ?_
    fail "go"
    rw [hcutC]
    refine exO (op_addT (lim_of (by rw [List.length_append]; simp only [List.length_cons, List.length_nil]; omega))) ?_
    fail "go"
    rw [hcutC]
    refine exO (op_addT (lim_of (by rw [List.length_append]; simp only [List.length_cons, List.length_nil]; omega))) ?_
    fail "go"
    refine exO (op_addT (lim_of (by rw [List.length_append, repD_len]; simp; omega))) ?_
    fail "go"
    refine exO (op_addT (lim_of (by rw [List.length_append]; simp only [List.length_cons, List.length_nil]; omega))) ?_
    fail "go"
    refine exVo (op_of rfl (f_addL (lim_of (by simp; omega)))) rfl ?_
    refine ⟨_, rfl, ?_⟩
    fail "go"
    refine ⟨_, o6, g3, ?_, ⟨?_, ?_, j6⟩, hg3, rfl⟩
    · intro x hx
      rcases List.mem_append.mp hx with h | h
      · exact hL x h
      · clear hx
        simp only [List.mem_cons, List.mem_nil_iff, or_false] at h
        rcases h with rfl | rfl | rfl | rfl | rfl | rfl | rfl | rfl | rfl | rfl | rfl | rfl | rfl | rfl | rfl | rfl | rfl | rfl
        all_goals try (first | rfl | (exact wat_count (List.mem_append_left _ List.mem_cons_self) rfl) | (simp [watB, withinB, nT]; done))
        · exact wat_len (by rw [repD_len, hrl]; simp; omega)
        · exact wat_count (x := iT row) (List.mem_of_getElem? her) rfl
        · exact wat_cl (by rw [List.length_append, repD_len]; simp)
        · refine wat_state (x := iT row) (List.mem_of_getElem? her) (row_len ?_)
          rw [hrwl]
          have := prod_two w.cs
          show (prodN w.cs : Int) ≠ prodI ((w.cs.map fun (n : Nat) => PyData.int (n : Int)) ++ [.int 2])
          rw [this]
          omega
    · simp
    · simp; omega
  clear hL hl L hg3 g3 h0 j6 o6
  rintro _ ⟨L, o6, g3, hL, ⟨h0, hl, j6⟩, hg3, rfl⟩
  fail "go"
  refine call_take ht rfl hg3 ⟨by omega, by omega⟩ fun p g4 hp4 hg4 => ?_
  fail "go"
  refine call_pick hp rfl hg4 ⟨by simp, by simp⟩ ?_
  intro x g5 hx hg5
  have hpc : p < w.cs.length := by omega
  have hcp : cutD (w.cs.map fun (n : Nat) => PyData.int (n : Int)) none (some (p : Int)) = (w.cs.map fun (n : Nat) => PyData.int (n : Int)).take p := cut_lo (by omega)
  have hcp2 : cutD (w.cs.map fun (n : Nat) => PyData.int (n : Int)) (some ((p : Int) + 1)) none = (w.cs.map fun (n : Nat) => PyData.int (n : Int)).drop (p + 1) := cut_hi (by omega) (by omega)
  have hcl3 : ((w.cs.map fun (n : Nat) => PyData.int (n : Int)).take p ++ [x] ++ (w.cs.map fun (n : Nat) => PyData.int (n : Int)).drop (p + 1)).length = w.cs.length := by
    rw [List.length_append, List.length_append, List.length_take, List.length_drop, hcl]
    simp
    omega
  refine ⟨_, rfl, ?_⟩
  fail "go"
  rw [hcp]
  refine exO (op_addT (lim_of (by rw [List.length_append, List.length_take]; simp; omega))) ?_
  fail "go"
  rw [hcp2]
  refine exVf (op_addT (lim_of (by simp only [List.length_cons, List.length_nil] at hcl3 ⊢; rw [hcl3]; omega))) rfl ?_
  fail "gs"
  have hO1 : x ∈ (w.cs.map fun (n : Nat) => PyData.int (n : Int)).take p ++ [x] ++ (w.cs.map fun (n : Nat) => PyData.int (n : Int)).drop (p + 1) := by simp
  have hO2 : ∀ c ∈ (w.cs.map fun (n : Nat) => PyData.int (n : Int)).take p ++ [x] ++ (w.cs.map fun (n : Nat) => PyData.int (n : Int)).drop (p + 1), c = x ∨ ∃ n : Nat, n ≤ 5 ∧ c = .int n := by
    intro c hc
    have hcs : ∀ c ∈ (w.cs.map fun (n : Nat) => PyData.int (n : Int)), ∃ n : Nat, n ≤ 5 ∧ c = .int n := by
      intro c hc
      obtain ⟨n, hn, rfl⟩ := List.mem_map.mp hc
      have := hw.cs.c n hn
      exact ⟨n, by omega, rfl⟩
    rcases List.mem_append.mp hc with h | h
    · rcases List.mem_append.mp h with h | h
      · exact .inr (hcs c (List.mem_of_mem_take h))
      · exact .inl (List.mem_singleton.mp h)
    · exact .inr (hcs c (List.mem_of_mem_drop h))
  have hO3 : ((w.cs.map fun (n : Nat) => PyData.int (n : Int)).take p ++ [x] ++ (w.cs.map fun (n : Nat) => PyData.int (n : Int)).drop (p + 1)).length ≤ 3 := by rw [hcl3]; exact hc3
  have hat2 : ∀ {ss : Ss} {r : Rho} {N : Rho → Prop} {R : SV → List GE → Prop} {B C : Rho → Prop} {X : Nat → Rho → Prop} (O : List D), (w.cs.map fun (n : Nat) => PyData.int (n : Int)).take p ++ [x] ++ (w.cs.map fun (n : Nat) => PyData.int (n : Int)).drop (p + 1) = O → r = ⟨[some (.gl 0), some (.dat w.enc), some (.dat (.int (w.rs.map iT).length)), some (.dat (.int at_)), some (.dat (iT row)), some (.dat (.int k)), o6, some (.own (.list L)), some (.dat (.int p)), some (.dat x), some (.dat (.tuple O)), none, some (.dat (nT w.cs)), some (.dat (.tuple (w.rs.map iT)))], g5⟩ → wSs Fs ss ⟨[some (.gl 0), some (.dat w.enc), some (.dat (.int (w.rs.map iT).length)), some (.dat (.int at_)), some (.dat (iT row)), some (.dat (.int k)), o6, some (.own (.list L)), some (.dat (.int p)), some (.dat x), some (.dat (.tuple O)), none, some (.dat (nT w.cs)), some (.dat (.tuple (w.rs.map iT)))], g5⟩ N R B C X → wSs Fs ss r N R B C X := fun O _ e h => e ▸ h
  refine hat2 _ rfl rfl ?_
  clear hat2
  generalize (w.cs.map fun (n : Nat) => PyData.int (n : Int)).take p ++ [x] ++ (w.cs.map fun (n : Nat) => PyData.int (n : Int)).drop (p + 1) = O at hO1 hO2 hO3 ⊢
  refine wSs_cut (fun r => r = ⟨[some (.gl 0), some (.dat w.enc), some (.dat (.int (w.rs.map iT).length)), some (.dat (.int at_)), some (.dat (iT row)), some (.dat (.int k)), o6, some (.own (.list L)), some (.dat (.int p)), some (.dat x), some (.dat (.tuple O)), some (.dat (.int (prodN w.cs : Nat))), some (.dat (nT w.cs)), some (.dat (.tuple (w.rs.map iT)))], g5⟩) ?_ ?_
  · fail "go"
    rw [hrwl]; rfl
  rintro _ rfl
  refine wSs_cut (fun r => ∃ v : Nat, v ≤ 200 ∧ withinB x 1 4 = false ∧ r = ⟨[some (.gl 0), some (.dat w.enc), some (.dat (.int (w.rs.map iT).length)), some (.dat (.int at_)), some (.dat (iT row)), some (.dat (.int k)), o6, some (.own (.list L)), some (.dat (.int p)), some (.dat x), some (.dat (.tuple O)), some (.dat (.int v)), some (.dat (nT w.cs)), some (.dat (.tuple (w.rs.map iT)))], g5⟩) ?_ ?_
  · have hall : (∃ n : Nat, n ≤ 5 ∧ (x = .int n ∨ (x = .bool true ∧ n = 1))) → ∀ c ∈ O, ∃ n : Nat, n ≤ 5 ∧ (c = .int n ∨ (c = .bool true ∧ n = 1)) := by
      intro hx c hc
      rcases hO2 c hc with rfl | ⟨n, hn, rfl⟩
      · exact hx
      · exact ⟨n, hn, .inl rfl⟩
    simp only [List.mem_cons, List.mem_nil_iff, or_false] at hx
    rcases hx with rfl | rfl | rfl | rfl | rfl | rfl
    · obtain ⟨v, hv, hr⟩ := hm.run O hO3 (hall ⟨0, by decide, .inl rfl⟩)
      fail "go"
      refine call_ret (ds := [.tuple O]) hm.pu hm.n rfl hr rfl ?_
      refine ⟨_, rfl, ?_⟩
      fail "go"
      exact ⟨v, by omega, rfl, rfl⟩
    · obtain ⟨v, hv, hr⟩ := hm.run O hO3 (hall ⟨5, by decide, .inl rfl⟩)
      fail "go"
      refine call_ret (ds := [.tuple O]) hm.pu hm.n rfl hr rfl ?_
      refine ⟨_, rfl, ?_⟩
      fail "go"
      exact ⟨v, by omega, rfl, rfl⟩
    · obtain ⟨v, hv, hr⟩ := hm.run O hO3 (hall ⟨1, by decide, .inr ⟨rfl, rfl⟩⟩)
      fail "go"
      refine call_ret (ds := [.tuple O]) hm.pu hm.n rfl hr rfl ?_
      refine ⟨_, rfl, ?_⟩
      fail "go"
      exact ⟨v, by omega, rfl, rfl⟩
    · fail "go"
      exact ⟨prodN w.cs, by omega, rfl, rfl⟩
    · fail "go"
      exact ⟨prodN w.cs, by omega, rfl, rfl⟩
    · fail "go"
      exact ⟨prodN w.cs, by omega, rfl, rfl⟩
  rintro _ ⟨v, hv, hxw, rfl⟩
  obtain ⟨M, hM⟩ := mulV hv
  fail "go"
  refine exO (op_of rfl hM) ?_
  fail "go"
  refine exO (op_of rfl mulL4) ?_
  fail "go"
  refine exVo (op_of rfl (f_addL (lim_of (by rw [repD_len]; simp; omega)))) rfl ?_
  refine ⟨_, rfl, ?_⟩
  fail "go"
  refine call_pick hp rfl hg5 ⟨by rw [List.length_append]; omega, by rw [List.length_append, repD_len]; simp; omega⟩ ?_
  intro y g6 hy hg6
  refine ⟨⟨y, rfl, ?_⟩, hg6⟩
  rcases List.mem_append.mp hy with h | h
  · exact hL y h
  · have hb : watB (.tuple [.tuple O, .tuple [.tuple M]]) = false := wat_count hO1 hxw
    have : y = .tuple [.tuple O, .tuple [.tuple M]] := by
      unfold repD at h
      obtain ⟨l, hl2, h⟩ := List.mem_flatten.mp h
      rw [(List.mem_replicate.mp hl2).2] at h
      exact List.mem_singleton.mp h
    rw [this]; exact hb
end Mp
set_option Elab.async false
set_option linter.all false
set_option maxRecDepth 100000
set_option maxHeartbeats 2000000
/-! P04e: what is refused (plain Lean) -/
namespace Mp
open PySem
namespace K04
def refW : SV := .dat (.tuple [.str "refused", .str "watcher"])
structure MeetErr (F : Fn) : Prop where
  pu : F.pu = true
  n : F.n = 2
  bad : ∀ x y, (watB x = false ∨ watB y = false) → Exc (F.run [.dat x, .dat y] []) 2
  unlike : ∀ (v w : Wa), v.Ok → w.Ok → v.cs ≠ w.cs → Exc (F.run [.dat v.enc, .dat w.enc] []) 2
structure Err2 (F : Fn) : Prop where
  pu : F.pu = true
  n : F.n = 2
  bad : ∀ x y, watB x = false → Exc (F.run [.dat x, .dat y] []) 2
structure Err3 (F : Fn) : Prop where
  pu : F.pu = true
  n : F.n = 3
  bad : ∀ x y z, watB x = false → Exc (F.run [.dat x, .dat y, .dat z] []) 2
structure ToldOk (F : Fn) : Prop where
  pu : F.pu = true
  n : F.n = 3
  ok : ∀ x y, watB x = true → RetV (F.run [.dat (.int 0), .dat x, .dat y] []) (.dat (.str "let"))
  bad : ∀ (t : Int) x y, (0 ≤ t ∧ t ≤ 5) → watB x = false → RetV (F.run [.dat (.int t), .dat x, .dat y] []) refW
  bad3 : ∀ x y, watB y = false → RetV (F.run [.dat (.int 3), .dat x, .dat y] []) refW
  unlike : ∀ (v w : Wa), v.Ok → w.Ok → v.cs ≠ w.cs → RetV (F.run [.dat (.int 3), .dat v.enc, .dat w.enc] []) refW
local macro_rules | `(tactic| fail "w") => `(tactic| first
  | with_reducible refine wSs_cons ?_ | with_reducible refine wSs_nil ?_ | with_reducible refine wS_asg ?_ | with_reducible refine wS_ret ?_ | with_reducible refine wS_ite ?_ | with_reducible refine wS_ex ?_ | with_reducible refine wS_unp ?_ | with_reducible refine wS_for ?_
  | ((with_reducible refine wS_mutO ?_ ?_); exact rfl) | ((with_reducible apply exMg); exact rfl; exact rfl; exact rfl; exact rfl; exact rfl) | ((with_reducible apply exMo); exact rfl; exact rfl; exact rfl; exact rfl)
  | with_reducible refine wS_raise ?_ | with_reducible refine wS_retN ?_ | with_reducible refine wS_par ?_ | with_reducible refine wS_pass ?_ | with_reducible refine wS_tryC ?_
  | with_reducible refine wE_k ?_ | ((with_reducible apply wE_nm); exact rfl) | ((with_reducible apply wE_fz); exact rfl) | ((with_reducible apply wE_fzO); exact rfl) | with_reducible refine wE_op ?_ | with_reducible refine wE_glob ?_ | with_reducible refine wE_call ?_ | with_reducible refine wE_tup ?_ | with_reducible refine wE_lst ?_
  | with_reducible refine wE_chain ?_ | with_reducible refine wE_and ?_ | with_reducible refine wE_or ?_ | with_reducible refine wE_not ?_ | with_reducible refine wE_ife ?_ | with_reducible refine wE_asI ?_
  | with_reducible refine wEs_nil ?_ | with_reducible refine wEs_cons ?_
  | with_reducible refine wT_op ?_ | with_reducible refine wT_lst ?_ | with_reducible refine wT_call ?_ | with_reducible refine wT_lc ?_ | with_reducible refine wT_lcIf ?_ | with_reducible refine wT_lc2 ?_ | ((with_reducible apply wT_of); exact rfl)
  | with_reducible refine wE_lc ?_ | with_reducible refine wE_lcIf ?_ | with_reducible refine wE_lc2 ?_
  | with_reducible refine wI_seq ?_ | with_reducible refine wI_rng ?_ | with_reducible refine wI_rng2 ?_ | with_reducible refine wI_zip2 ?_ | with_reducible refine wI_zip3 ?_)
local macro_rules | `(tactic| fail "v") => `(tactic| first
  | with_reducible refine wSs_nil ?_ | with_reducible refine wS_asg ?_ | with_reducible refine wS_ret ?_ | with_reducible refine wS_ite ?_ | with_reducible refine wS_ex ?_ | with_reducible refine wS_unp ?_ | with_reducible refine wS_for ?_
  | ((with_reducible refine wS_mutO ?_ ?_); exact rfl) | ((with_reducible apply exMg); exact rfl; exact rfl; exact rfl; exact rfl; exact rfl) | ((with_reducible apply exMo); exact rfl; exact rfl; exact rfl; exact rfl)
  | with_reducible refine wS_raise ?_ | with_reducible refine wS_retN ?_ | with_reducible refine wS_par ?_ | with_reducible refine wS_pass ?_ | with_reducible refine wS_tryC ?_
  | with_reducible refine wE_k ?_ | ((with_reducible apply wE_nm); exact rfl) | ((with_reducible apply wE_fz); exact rfl) | ((with_reducible apply wE_fzO); exact rfl) | with_reducible refine wE_op ?_ | with_reducible refine wE_glob ?_ | with_reducible refine wE_call ?_ | with_reducible refine wE_tup ?_ | with_reducible refine wE_lst ?_
  | with_reducible refine wE_chain ?_ | with_reducible refine wE_and ?_ | with_reducible refine wE_or ?_ | with_reducible refine wE_not ?_ | with_reducible refine wE_ife ?_ | with_reducible refine wE_asI ?_
  | with_reducible refine wEs_nil ?_ | with_reducible refine wEs_cons ?_
  | with_reducible refine wT_op ?_ | with_reducible refine wT_lst ?_ | with_reducible refine wT_call ?_ | with_reducible refine wT_lc ?_ | with_reducible refine wT_lcIf ?_ | with_reducible refine wT_lc2 ?_ | ((with_reducible apply wT_of); exact rfl)
  | with_reducible refine wE_lc ?_ | with_reducible refine wE_lcIf ?_ | with_reducible refine wE_lc2 ?_
  | with_reducible refine wI_seq ?_ | with_reducible refine wI_rng ?_ | with_reducible refine wI_rng2 ?_ | with_reducible refine wI_zip2 ?_ | with_reducible refine wI_zip3 ?_)
set_option hygiene false in
local macro_rules | `(tactic| fail "x") => `(tactic| first | ((with_reducible apply exB); exact rfl) | ((with_reducible apply exVf); exact rfl; exact rfl) | ((with_reducible apply exVo); exact rfl; exact rfl) | ((with_reducible apply exO); exact rfl) | ((with_reducible apply exU); exact rfl) | ((with_reducible refine fun hk => ?_); cases hk) | with_reducible refine fun hk => ?_)
local macro_rules | `(tactic| fail "c") => `(tactic| first
  | ((with_reducible apply call_whole); assumption; exact rfl)
  | ((with_reducible apply call_within); assumption; exact rfl)
  | ((with_reducible apply call_rising); assumption; exact rfl)
  | ((with_reducible apply call_system); assumption; exact rfl)
  | ((with_reducible apply call_checkSy); assumption; exact rfl; assumption))
local macro_rules | `(tactic| fail "go") => `(tactic| repeat' (first | fail "w" | fail "x" | fail "c"))
local macro_rules | `(tactic| fail "gs") => `(tactic| repeat' (first | fail "v" | fail "x" | fail "c"))
theorem accepts_err {Fs : Nat → Fn} (hc : CheckWOk (Fs 10)) : Err3 ⟨true, 3, fnRun Fs 7 b15⟩ := by
  refine ⟨rfl, rfl, fun x y z hx => fnRun_go (sl := [some (.dat x), some (.dat y), some (.dat z), none, none, none, none]) rfl ?_⟩
  unfold b15
  fail "go"
  exact call_checkWbad hc rfl hx rfl
theorem turned_err {Fs : Nat → Fn} (hc : CheckWOk (Fs 10)) : Err2 ⟨true, 2, fnRun Fs 8 b18⟩ := by
  refine ⟨rfl, rfl, fun x y hx => fnRun_go (sl := [some (.dat x), some (.dat y), none, none, none, none, none, none]) rfl ?_⟩
  unfold b18
  fail "go"
  exact call_checkWbad hc rfl hx rfl
theorem meet_err {Fs : Nat → Fn} (hc : CheckWOk (Fs 10)) : MeetErr ⟨true, 2, fnRun Fs 9 b17⟩ := by
  refine ⟨rfl, rfl, fun x y hb => fnRun_go (sl := [some (.dat x), some (.dat y), none, none, none, none, none, none, none]) rfl ?_, fun v w hv hw hb => fnRun_go (sl := [some (.dat v.enc), some (.dat w.enc), none, none, none, none, none, none, none]) rfl ?_⟩
  · unfold b17
    cases hx : watB x with
    | false =>
      fail "go"
      exact call_checkWbad hc rfl hx rfl
    | true =>
      have hy : watB y = false := by rcases hb with h | h; rw [hx] at h; cases h; exact h
      fail "go"
      refine call_checkWx hc rfl hx ?_
      fail "go"
      exact call_checkWbad hc rfl hy rfl
  · unfold b17
    have hp : ∀ p : List Nat, PyData.plain (nT p) = true := fun p => plainN p
    have hd : ∀ p : List Nat, (nT p).depth = 1 := fun p => by
      show PyData.depthAll _ + 1 = 1
      rw [depthI p]
    fail "go"
    refine call_checkWx hc rfl hv.wat ?_
    fail "go"
    refine call_checkWx hc rfl hw.wat ?_
    fail "go"
    refine exO (op_of rfl (f_ne_of (hp v.cs) (hp w.cs) (by rw [hd, hd]; decide))) ?_
    fail "go"
    · rfl
    · exfalso
      simp only [tb, Bool.not_eq_false'] at hk
      apply hb
      have : ∀ (xs ys : List Nat), PyData.eqvAll (xs.map fun (n : Nat) => PyData.int (n : Int)) (ys.map fun (n : Nat) => PyData.int (n : Int)) = true → xs = ys := by
        intro xs
        induction xs with
        | nil => intro ys h; cases ys; rfl; simp [PyData.eqvAll] at h
        | cons x xs ih =>
          intro ys h
          cases ys with
          | nil => simp [PyData.eqvAll] at h
          | cons y ys =>
            simp only [List.map_cons, PyData.eqvAll, Bool.and_eq_true, eqvI, decide_eq_true_eq] at h
            rw [ih ys h.2]
            have := h.1
            congr 1
            omega
      exact this _ _ hk
theorem told_ok {Fs : Nat → Fn} (h10 : CheckWOk (Fs 10)) (h13 : GoesOk (Fs 13)) (h15 : Err3 (Fs 15)) (h17 : MeetErr (Fs 17)) (h18 : Err2 (Fs 18)) (hc : Fs 0 = clsFn) : ToldOk ⟨true, 3, fnRun Fs 4 b27⟩ := by
  refine ⟨rfl, rfl, fun x y hx => fnRun_go (sl := [some (.dat (.int 0)), some (.dat x), some (.dat y), none]) rfl ?_, fun t x y ht hx => fnRun_go (sl := [some (.dat (.int t)), some (.dat x), some (.dat y), none]) rfl ?_, fun x y hy => fnRun_go (sl := [some (.dat (.int 3)), some (.dat x), some (.dat y), none]) rfl ?_, fun v w hv hw hb => fnRun_go (sl := [some (.dat (.int 3)), some (.dat v.enc), some (.dat w.enc), none]) rfl ?_⟩
  · unfold b27
    fail "go"
    refine call_checkWx h10 rfl hx ?_
    fail "go"
    rfl
  · unfold b27
    have ht' : t = 0 ∨ t = 1 ∨ t = 2 ∨ t = 3 ∨ t = 4 ∨ t = 5 := by omega
    have hz : ∃ d, told (some "refused") 6 2 ((Fs 0).run [.exc 2] []) = some d ∧ SV.dat d = refW := by
      rw [hc]; exact ⟨_, rfl, rfl⟩
    rcases ht' with rfl | rfl | rfl | rfl | rfl | rfl
    · fail "go"
      exact call_checkWbad h10 rfl hx hz
    · fail "go"
      exact call_exc (ds := [x, .int 0, .tuple [.int 0]]) h13.pu h13.n rfl (h13.bad _ _ _ hx) hz
    · fail "go"
      exact call_exc (ds := [x, .tuple [.none], .tuple []]) h15.pu h15.n rfl (h15.bad _ _ _ hx) hz
    · fail "go"
      exact call_exc (ds := [x, y]) h17.pu h17.n rfl (h17.bad _ _ (.inl hx)) hz
    · fail "go"
      exact call_exc (ds := [y, x]) h17.pu h17.n rfl (h17.bad _ _ (.inr hx)) hz
    · fail "go"
      exact call_exc (ds := [x, .tuple [.int 0]]) h18.pu h18.n rfl (h18.bad _ _ hx) hz
  · unfold b27
    fail "go"
    refine call_exc (ds := [x, y]) h17.pu h17.n rfl (h17.bad _ _ (.inr hy)) ?_
    rw [hc]; exact ⟨_, rfl, rfl⟩
  · unfold b27
    fail "go"
    refine call_exc (ds := [v.enc, w.enc]) h17.pu h17.n rfl (h17.unlike _ _ hv hw hb) ?_
    rw [hc]; exact ⟨_, rfl, rfl⟩
end K04
end Mp
set_option Elab.async false
set_option linter.all false
set_option maxRecDepth 100000
set_option maxHeartbeats 2000000
/-! P04: the law (plain Lean) -/
namespace Mp
open PySem
theorem leaf_int {n : Int} (h : -1 ≤ n ∧ n < 8) : PyData.leavesShort 8 (.int n) = true ∧ PyData.showable (.int n) = true := by
  have : n = -1 ∨ n = 0 ∨ n = 1 ∨ n = 2 ∨ n = 3 ∨ n = 4 ∨ n = 5 ∨ n = 6 ∨ n = 7 := by omega
  rcases this with rfl | rfl | rfl | rfl | rfl | rfl | rfl | rfl | rfl <;> exact ⟨by decide, by decide⟩
theorem leaf_iT : ∀ p : List Int, (∀ n ∈ p, -1 ≤ n ∧ n < 8) → PyData.leavesShortAll 8 (p.map fun (n : Int) => PyData.int n) = true ∧ PyData.showableAll (p.map fun (n : Int) => PyData.int n) = true
  | [], _ => ⟨rfl, rfl⟩
  | n :: p, h => by
    obtain ⟨h1, h2⟩ := leaf_int (h n List.mem_cons_self)
    obtain ⟨h3, h4⟩ := leaf_iT p fun q hq => h q (List.mem_cons_of_mem _ hq)
    rw [List.map_cons, PyData.leavesShortAll, PyData.showableAll, h1, h2, h3, h4]
    exact ⟨rfl, rfl⟩
theorem bulk_iT : ∀ p : List Int, PyData.bulkAll (p.map fun (n : Int) => PyData.int n) = p.length
  | [] => rfl
  | n :: p => by
    have := bulk_iT p
    simp only [List.map_cons, PyData.bulkAll, PyData.bulk, List.length_cons]
    omega
theorem repr_iT {p : List Int} (h : ∀ n ∈ p, -1 ≤ n ∧ n < 8) (hl : p.length ≤ 1000) : f_repr [iT p] = some (.str (PyData.shown (iT p))) := by
  obtain ⟨h3, h4⟩ := leaf_iT p h
  have h1 : PyData.showable (iT p) = true := h4
  have h2 : PyData.plain (iT p) = true := plain_iT
  have h5 : (iT p).depth ≤ 40 := by
    show PyData.depthAll _ + 1 ≤ 40
    rw [depthI (f := fun (n : Int) => n)]
    decide
  have h6 : (PyData.shown (iT p)).length ≤ lim := by
    have := PyData.shown_fits_bulk (B := 8) (by decide) (by decide) (d := iT p) h3 (by show PyData.bulkAll _ ≤ _; rw [bulk_iT p]; have e : (2 : Nat) ^ 20 = 1048576 := by decide
                                                                                       omega)
    exact this
  unfold f_repr
  dsimp only
  rw [h1, h2, decide_eq_true h5, decide_eq_true h6]
  rfl
theorem f_rngL_of {c : Nat} (h : c ≤ 1000) : f_rngL [.int c] = some (.list ((List.range c).map fun (n : Nat) => PyData.int (n : Int))) := by
  unfold f_rngL
  dsimp only
  rw [mid_of (by omega) (by omega), decide_eq_true (by omega)]
  have : PyData.tuple (rngD 0 (c : Int)) = nT (List.range c) := rngD0 rfl
  have h2 : rngD 0 (c : Int) = (List.range c).map fun (n : Nat) => PyData.int (n : Int) := by
    unfold nT at this
    exact PyData.tuple.inj this
  rw [h2]; rfl
namespace K04
def Sl4 (r : Rho) : Prop := ∃ a2 cs a4 a5 a6 a7 a8 a9 a10 a11 g, (Jk a2 ∧ CsOk cs ∧ Jk a4 ∧ Jk a5 ∧ Jk a6 ∧ Jk a7 ∧ Jk a8 ∧ Jk a9 ∧ Jk a10 ∧ Jk a11 ∧ Bx g) ∧ r = ⟨[none, some (.gl 0), a2, some (.dat (nT cs)), a4, a5, a6, a7, a8, a9, a10, a11], g⟩
def Sl4' (r : Rho) : Prop := ∃ a2 a3 a4 a5 a6 a7 a8 a9 a10 a11 g, (Jk a2 ∧ Jk a3 ∧ Jk a4 ∧ Jk a5 ∧ Jk a6 ∧ Jk a7 ∧ Jk a8 ∧ Jk a9 ∧ Jk a10 ∧ Jk a11 ∧ Bx g) ∧ r = ⟨[none, some (.gl 0), a2, a3, a4, a5, a6, a7, a8, a9, a10, a11], g⟩
local macro_rules | `(tactic| fail "w") => `(tactic| first
  | with_reducible refine wSs_cons ?_ | with_reducible refine wSs_nil ?_ | with_reducible refine wS_asg ?_ | with_reducible refine wS_ret ?_ | with_reducible refine wS_ite ?_ | with_reducible refine wS_ex ?_ | with_reducible refine wS_unp ?_ | with_reducible refine wS_for ?_
  | ((with_reducible refine wS_mutO ?_ ?_); exact rfl) | ((with_reducible apply exMg); exact rfl; exact rfl; exact rfl; exact rfl; exact rfl) | ((with_reducible apply exMo); exact rfl; exact rfl; exact rfl; exact rfl)
  | with_reducible refine wS_raise ?_ | with_reducible refine wS_retN ?_ | with_reducible refine wS_par ?_ | with_reducible refine wS_pass ?_ | with_reducible refine wS_tryC ?_
  | with_reducible refine wE_k ?_ | ((with_reducible apply wE_nm); exact rfl) | ((with_reducible apply wE_fz); exact rfl) | ((with_reducible apply wE_fzO); exact rfl) | with_reducible refine wE_op ?_ | with_reducible refine wE_glob ?_ | with_reducible refine wE_call ?_ | with_reducible refine wE_tup ?_ | with_reducible refine wE_lst ?_
  | with_reducible refine wE_chain ?_ | with_reducible refine wE_and ?_ | with_reducible refine wE_or ?_ | with_reducible refine wE_not ?_ | with_reducible refine wE_ife ?_ | with_reducible refine wE_asI ?_
  | with_reducible refine wEs_nil ?_ | with_reducible refine wEs_cons ?_
  | with_reducible refine wT_op ?_ | with_reducible refine wT_lst ?_ | with_reducible refine wT_call ?_ | with_reducible refine wT_lc ?_ | with_reducible refine wT_lcIf ?_ | with_reducible refine wT_lc2 ?_ | ((with_reducible apply wT_of); exact rfl)
  | with_reducible refine wE_lc ?_ | with_reducible refine wE_lcIf ?_ | with_reducible refine wE_lc2 ?_
  | with_reducible refine wI_seq ?_ | with_reducible refine wI_rng ?_ | with_reducible refine wI_rng2 ?_ | with_reducible refine wI_zip2 ?_ | with_reducible refine wI_zip3 ?_)
local macro_rules | `(tactic| fail "v") => `(tactic| first
  | with_reducible refine wSs_nil ?_ | with_reducible refine wS_asg ?_ | with_reducible refine wS_ret ?_ | with_reducible refine wS_ite ?_ | with_reducible refine wS_ex ?_ | with_reducible refine wS_unp ?_ | with_reducible refine wS_for ?_
  | ((with_reducible refine wS_mutO ?_ ?_); exact rfl) | ((with_reducible apply exMg); exact rfl; exact rfl; exact rfl; exact rfl; exact rfl) | ((with_reducible apply exMo); exact rfl; exact rfl; exact rfl; exact rfl)
  | with_reducible refine wS_raise ?_ | with_reducible refine wS_retN ?_ | with_reducible refine wS_par ?_ | with_reducible refine wS_pass ?_ | with_reducible refine wS_tryC ?_
  | with_reducible refine wE_k ?_ | ((with_reducible apply wE_nm); exact rfl) | ((with_reducible apply wE_fz); exact rfl) | ((with_reducible apply wE_fzO); exact rfl) | with_reducible refine wE_op ?_ | with_reducible refine wE_glob ?_ | with_reducible refine wE_call ?_ | with_reducible refine wE_tup ?_ | with_reducible refine wE_lst ?_
  | with_reducible refine wE_chain ?_ | with_reducible refine wE_and ?_ | with_reducible refine wE_or ?_ | with_reducible refine wE_not ?_ | with_reducible refine wE_ife ?_ | with_reducible refine wE_asI ?_
  | with_reducible refine wEs_nil ?_ | with_reducible refine wEs_cons ?_
  | with_reducible refine wT_op ?_ | with_reducible refine wT_lst ?_ | with_reducible refine wT_call ?_ | with_reducible refine wT_lc ?_ | with_reducible refine wT_lcIf ?_ | with_reducible refine wT_lc2 ?_ | ((with_reducible apply wT_of); exact rfl)
  | with_reducible refine wE_lc ?_ | with_reducible refine wE_lcIf ?_ | with_reducible refine wE_lc2 ?_
  | with_reducible refine wI_seq ?_ | with_reducible refine wI_rng ?_ | with_reducible refine wI_rng2 ?_ | with_reducible refine wI_zip2 ?_ | with_reducible refine wI_zip3 ?_)
set_option hygiene false in
local macro_rules | `(tactic| fail "x") => `(tactic| first | ((with_reducible apply exB); exact rfl) | ((with_reducible apply exVf); exact rfl; exact rfl) | ((with_reducible apply exVo); exact rfl; exact rfl) | ((with_reducible apply exO); exact rfl) | ((with_reducible apply exU); exact rfl) | ((with_reducible refine fun hk => ?_); cases hk) | with_reducible refine fun hk => ?_)
local macro_rules | `(tactic| fail "c") => `(tactic| first
  | ((with_reducible apply call_whole); assumption; exact rfl)
  | ((with_reducible apply call_within); assumption; exact rfl)
  | ((with_reducible apply call_rising); assumption; exact rfl)
  | ((with_reducible apply call_system); assumption; exact rfl)
  | ((with_reducible apply call_checkSy); assumption; exact rfl; assumption))
local macro_rules | `(tactic| fail "go") => `(tactic| repeat' (first | fail "w" | fail "x" | fail "c"))
local macro_rules | `(tactic| fail "gs") => `(tactic| repeat' (first | fail "v" | fail "x" | fail "c"))
theorem turn_core {Fs : Nat → Fn} (h13 : GoesOk (Fs 13)) (h20 : TakeOk (Fs 20)) (h23 : WatcherOfOk (Fs 23)) (h24 : LGoesOk (Fs 24)) (h25 : ChoicesOk (Fs 25)) (h26 : BadWOk (Fs 26)) (h27 : ToldOk (Fs 27)) {r : Rho} (hr : Sl4' r) : wSs Fs (forBodyS bl) r Sl4 (fun v _ => v = .dat (.bool true)) (fun _ => False) (fun _ => False) fun _ _ => False := by
  obtain ⟨a2, a3, a4, a5, a6, a7, a8, a9, a10, a11, g, ⟨j2, j3, j4, j5, j6, j7, j8, j9, j10, j11, hg⟩, rfl⟩ := hr
  unfold bl
  dsimp only [forBodyS]
  refine wSs_cut (fun r => ∃ cs g, CsOk cs ∧ Bx g ∧ r = ⟨[none, some (.gl 0), a2, some (.dat (nT cs)), a4, a5, a6, a7, a8, a9, a10, a11], g⟩) ?_ ?_
  · fail "go"
    refine comp_wpI ?_
    fail "go"
    refine call_take h20 rfl hg ⟨by decide, by decide⟩ fun n1 g1 hn1 hg1 => ?_
    fail "go"
    refine exO (op_rng (mid_of (by omega) (by omega))) ?_
    refine ⟨rfl, rfl, fun i ys r => ∃ (cs : List Nat) (o10 : Option SV) (g : List GE), (cs.length = i ∧ (∀ c ∈ cs, 1 ≤ c ∧ c ≤ 4) ∧ Bx g) ∧ ys = (cs.map fun (n : Nat) => PyData.int (n : Int)) ∧ r = ⟨[none, some (.gl 0), a2, a3, a4, a5, a6, a7, a8, a9, o10, a11], g⟩, ⟨[], a10, _, ⟨rfl, by simp, hg1⟩, rfl, rfl⟩, ?_, ?_⟩
    · rintro i x ys _ e ⟨cs, o1, g2, ⟨h1, h2, h3⟩, rfl, rfl⟩
      refine ⟨_, rfl, elt1_wp ?_⟩
      fail "go"
      refine call_take h20 rfl h3 ⟨by decide, by decide⟩ fun b g3 hb hg3 => ?_
      fail "go"
      refine ⟨cs ++ [1 + b], _, _, ⟨by simp [h1], ?_, hg3⟩, by rw [List.map_append]; rfl, rfl⟩
      intro y hy
      rcases List.mem_append.mp hy with h | h
      · exact h2 y h
      · rw [List.mem_singleton.mp h]; exact ⟨by omega, by omega⟩
    · rintro ys _ ⟨cs, o1, g2, ⟨h1, h2, h3⟩, rfl, rfl⟩
      have h5 : (rngD 0 (1 + (n1 : Int))).length = 1 + n1 := by rw [rngD_lenN]; omega
      dsimp only at h1
      rw [h5] at h1
      refine ⟨by rw [List.length_map, h1]; exact lim_of (by omega), ?_⟩
      fail "go"
      refine ⟨_, wr_jk (by exact j3), ?_⟩
      exact ⟨cs, g2, ⟨by omega, by omega, h2⟩, h3, rfl⟩
  rintro _ ⟨cs, g1, hcs, hg1, rfl⟩
  fail "go"
  refine call_watcherOf (m := 6) h23 rfl hg1 ⟨hcs, by decide, by decide⟩ fun w g2 hw hwc hwl hg2 => ?_
  refine ⟨_, wr_jk (by exact j4), ?_⟩
  fail "go"
  refine call_ret (ds := [.int 0, w.enc, w.enc]) h27.pu h27.n rfl (h27.ok _ _ hw.wat) rfl ?_
  fail "go"
  have hbw : ∀ {os : List Opd} {r : Rho} {K : SV → Rho → Prop} {X : Nat → Rho → Prop}, argsSV r os = some ([.gl 0, .dat w.enc], false) → Bx r.g → (∀ x g', watB x = false → Bx g' → K (.dat x) ⟨r.sl, g'⟩) → (doCall (Fs 26) os).wp r K X := fun ho hb k => call_badW h26 ho hb hw k
  refine hbw rfl hg2 fun x g3 hx hg3 => ?_
  refine ⟨_, wr_jk (by exact j5), ?_⟩
  refine wSs_at (r' := ⟨[none, some (.gl 0), a2, some (.dat (nT cs)), some (.dat w.enc), some (.dat x), a6, a7, a8, a9, a10, a11], g3⟩) rfl ?_
  refine wSs_cut (fun r => ∃ a6, Jk a6 ∧ r = ⟨[none, some (.gl 0), a2, some (.dat (nT cs)), some (.dat w.enc), some (.dat x), a6, a7, a8, a9, a10, a11], g3⟩) ?_ ?_
  · fail "go"
    refine exO (op_rng (mid_of (by decide) (by decide))) ?_
    refine ⟨fun j r => ∃ a6, Jk a6 ∧ r = ⟨[none, some (.gl 0), a2, some (.dat (nT cs)), some (.dat w.enc), some (.dat x), a6, a7, a8, a9, a10, a11], g3⟩, ⟨_, j6, rfl⟩, ?_, ?_⟩
    · rintro j y _ e ⟨b6, k6, rfl⟩
      obtain ⟨rfl, hj⟩ := rngD_at e
      refine ⟨_, wr_jk (by exact k6), ?_⟩
      fail "go"
      refine call_ret (ds := [.int (0 + j), x, w.enc]) h27.pu h27.n rfl (h27.bad _ _ _ (by omega) hx) rfl ?_
      fail "go"
      exact ⟨_, jk_dat, rfl⟩
    · rintro _ ⟨b6, k6, rfl⟩
      exact ⟨_, k6, rfl⟩
  rintro _ ⟨b6, k6, rfl⟩
  subst hwc
  fail "go"
  have hn6 := hw.l6
  have hc3 := hw.cs.l3
  refine exO (op_rng (mid_of (by omega) (by rw [List.length_map]; omega))) ?_
  refine ⟨fun j r => ∃ a7 a8 a9 a10 a11 g, (Jk a7 ∧ Jk a8 ∧ Jk a9 ∧ Jk a10 ∧ Jk a11 ∧ Bx g) ∧ r = ⟨[none, some (.gl 0), a2, some (.dat (nT w.cs)), some (.dat w.enc), some (.dat x), b6, a7, a8, a9, a10, a11], g⟩, ⟨_, _, _, _, _, _, ⟨j7, j8, j9, j10, j11, hg3⟩, rfl⟩, ?_, ?_⟩
  · rintro z y _ e ⟨c7, c8, c9, c10, c11, g4, ⟨k7, k8, k9, k10, k11, hg4⟩, rfl⟩
    obtain ⟨rfl, hz⟩ := rngD_at e
    rw [List.length_map] at hz
    have hz' : z < w.rs.length := by omega
    have hz0 : (0 + (z : Int)) = (z : Int) := by omega
    rw [hz0]
    have hrl := hw.rl hz'
    have hpr := hw.cs.prod
    refine ⟨_, wr_jk (by exact k7), ?_⟩
    refine wSs_at (r' := ⟨[none, some (.gl 0), a2, some (.dat (nT w.cs)), some (.dat w.enc), some (.dat x), b6, some (.dat (.int z)), c8, c9, c10, c11], g4⟩) rfl ?_
    refine wSs_cut (fun r => r = ⟨[none, some (.gl 0), a2, some (.dat (nT w.cs)), some (.dat w.enc), some (.dat x), b6, some (.dat (.int z)), some (.own (.list ((w.rs.getD z []).map fun (n : Int) => PyData.int n))), c9, c10, c11], g4⟩) ?_ ?_
    · fail "go"
      refine comp_map (fun t => [.int ((w.rs.getD z []).getD (placeN w.cs (toN t) 0) 0)]) (fun r => ∃ o9, r = ⟨[none, some (.gl 0), a2, some (.dat (nT w.cs)), some (.dat w.enc), some (.dat x), b6, some (.dat (.int z)), c8, o9, c10, c11], g4⟩) ?_
      fail "go"
      refine comp_map (fun c => [.list ((List.range (toI c).toNat).map fun (n : Nat) => PyData.int (n : Int))]) (fun r => ∃ o11, r = ⟨[none, some (.gl 0), a2, some (.dat (nT w.cs)), some (.dat w.enc), some (.dat x), b6, some (.dat (.int z)), c8, c9, c10, o11], g4⟩) ?_
      fail "go"
      refine ⟨rfl, rfl, ⟨_, rfl⟩, ?_, ?_, ?_⟩
      · rintro y hy _ ⟨o11, rfl⟩
        obtain ⟨c, hc, rfl⟩ := List.mem_map.mp hy
        have hcc := hw.cs.c c hc
        refine ⟨_, rfl, elt1_wp ?_⟩
        fail "go"
        refine exO (op_of rfl (f_rngL_of (by omega))) ?_
        fail "go"
        exact ⟨rfl, _, rfl⟩
      · exact lim_of (Nat.le_trans (flat_len (m := 1) _ fun _ _ => Nat.le_refl 1) (by show (w.cs.map _).length * 1 ≤ _; rw [List.length_map]; omega))
      · rintro _ ⟨o11, rfl⟩
        have ef : (PyData.list ((w.cs.map fun (n : Nat) => PyData.int (n : Int)).flatMap fun c => [PyData.list ((List.range (toI c).toNat).map fun (n : Nat) => PyData.int (n : Int))])) = lsD w.cs := by
          unfold lsD
          rw [List.flatMap_map, map_flat1]
          rfl
        have hL := allZ_ok _ w.cs rfl
        have hlen := allZ_len w.cs
        have hrow := row_all (cs := w.cs) (row := w.rs.getD z []) hrl
        dsimp only
        rw [ef]
        fail "go"
        refine call_at (ds := [lsD w.cs]) h25.pu h25.n rfl (h25.run _ hw.cs) (by rintro v (rfl | rfl) <;> rfl) ?_
        rintro v (rfl | rfl)
        all_goals
          fail "go"
          refine ⟨rfl, rfl, ⟨_, rfl⟩, ?_, ?_, ?_⟩
          · rintro y hy _ ⟨o9, rfl⟩
            obtain ⟨zs, hzs, rfl⟩ := List.mem_map.mp hy
            refine ⟨_, rfl, elt1_wp ?_⟩
            fail "go"
            refine call_ret (ds := [w.enc, .int z, nT zs]) h13.pu h13.n rfl (h13.run w z zs hw hz' (hL.1 zs hzs)) rfl ?_
            fail "go"
            exact ⟨by rw [toN_nT], _, rfl⟩
          · exact lim_of (Nat.le_trans (flat_len (m := 1) _ fun _ _ => Nat.le_refl 1) (by show ((allZ w.cs).map nT).length * 1 ≤ _; rw [List.length_map, hlen]; omega))
          · rintro _ ⟨o9, rfl⟩
            have e2 : (((allZ w.cs).map nT).flatMap fun t => [PyData.int ((w.rs.getD z []).getD (placeN w.cs (toN t) 0) 0)]) = (w.rs.getD z []).map fun (n : Int) => PyData.int n := by
              rw [List.flatMap_map, map_flat1]
              conv => rhs; rw [← hrow]
              rw [List.map_map]
              congr 1
              funext zs
              rw [toN_nT]; rfl
            dsimp only
            rw [e2]
            refine ⟨_, wr_jk (by exact k8), ?_⟩
            fail "go"
            rfl
    rintro _ rfl
    have hrv : ∀ n ∈ w.rs.getD z [], -1 ≤ n ∧ n < 8 := by
      intro n hn
      rw [List.getD_eq_getElem?_getD, List.getElem?_eq_getElem hz'] at hn
      have := (hw.rs _ (List.getElem_mem hz')).2 n hn
      omega
    obtain ⟨S, hS⟩ : ∃ S, f_repr [iT (w.rs.getD z [])] = some (.str S) := ⟨_, repr_iT hrv (by omega)⟩
    have hSS : PyData.eqv (.str S) (.str S) = true := eqv_self _ rfl
    refine wSs_cut (fun r => r = ⟨[none, some (.gl 0), a2, some (.dat (nT w.cs)), some (.dat w.enc), some (.dat x), b6, some (.dat (.int z)), some (.own (.list ((w.rs.getD z []).map fun (n : Int) => PyData.int n))), c9, c10, c11], g4⟩) ?_ ?_
    · fail "go"
      refine exO (op_of rfl hS) ?_
      fail "go"
      refine exO (op_idxT (atD_nat (row_at hz'))) ?_
      fail "go"
      refine exO (op_of rfl hS) ?_
      fail "go"
      · exfalso
        simp only [tb] at hk
        rw [hSS] at hk
        cases hk
      · rfl
    rintro _ rfl
    refine wSs_cut (fun r => ∃ zs g, Zs w.cs zs ∧ Bx g ∧ r = ⟨[none, some (.gl 0), a2, some (.dat (nT w.cs)), some (.dat w.enc), some (.dat x), b6, some (.dat (.int z)), some (.own (.list ((w.rs.getD z []).map fun (n : Int) => PyData.int n))), some (.dat (nT zs)), c10, c11], g⟩) ?_ ?_
    · fail "go"
      refine comp_wpI ?_
      fail "go"
      refine ⟨rfl, rfl, fun i ys r => ∃ (zs : List Nat) (o11 : Option SV) (g : List GE), (zs.length = i ∧ (∀ k, k < i → zs.getD k 0 < w.cs.getD k 0) ∧ Bx g) ∧ ys = (zs.map fun (n : Nat) => PyData.int (n : Int)) ∧ r = ⟨[none, some (.gl 0), a2, some (.dat (nT w.cs)), some (.dat w.enc), some (.dat x), b6, some (.dat (.int z)), some (.own (.list ((w.rs.getD z []).map fun (n : Int) => PyData.int n))), c9, c10, o11], g⟩, ⟨[], c11, _, ⟨rfl, fun k hk => absurd hk (Nat.not_lt_zero _), hg4⟩, rfl, rfl⟩, ?_, ?_⟩
      · rintro i y ys _ e ⟨zs, o11, g5, ⟨m1, m2, m3⟩, rfl, rfl⟩
        obtain ⟨c, ec, rfl⟩ := int_at e
        have hcc := hw.cs.c c (List.mem_of_getElem? ec)
        refine ⟨_, rfl, elt1_wp ?_⟩
        fail "go"
        refine call_take h20 rfl m3 ⟨by omega, by omega⟩ fun b g6 hb hg6 => ?_
        fail "go"
        refine ⟨zs ++ [b], _, _, ⟨by simp [m1], fun k hk => ?_, hg6⟩, by rw [List.map_append]; rfl, rfl⟩
        by_cases hlt : k < zs.length
        · rw [getD_l hlt]; exact m2 k (by omega)
        · have hki : k = i := by omega
          subst hki
          rw [getD_r m1.symm, List.getD_eq_getElem?_getD, ec]
          show b < c
          omega
      · rintro ys _ ⟨zs, o11, g5, ⟨m1, m2, m3⟩, rfl, rfl⟩
        dsimp only at m1 m2
        rw [List.length_map] at m1 m2
        refine ⟨by rw [List.length_map, m1]; exact lim_of (by omega), ?_⟩
        fail "go"
        exact ⟨_, wr_jk (by exact k9), zs, g5, ⟨m1, m2⟩, m3, rfl⟩
    rintro _ ⟨zs, g5, hzs, hg5, rfl⟩
    fail "go"
    refine call_ret (ds := [w.enc, .int z, nT zs]) h13.pu h13.n rfl (h13.run w z zs hw hz' hzs) rfl ?_
    fail "go"
    refine call_ret (ds := [w.enc, .int z, nT zs]) h24.pu h24.n rfl (h24.run w z zs hw hz' hzs) rfl ?_
    fail "go"
    · exfalso
      simp only [tb] at hk
      rw [eqv_self _ rfl] at hk
      cases hk
    · exact ⟨_, _, _, _, _, _, ⟨jk_dat, jk_own, jk_dat, k10, k11, hg5⟩, rfl⟩
  · rintro _ ⟨c7, c8, c9, c10, c11, g4, ⟨k7, k8, k9, k10, k11, hg4⟩, rfl⟩
    fail "go"
    exact ⟨_, _, _, _, _, _, _, _, _, _, _, ⟨j2, hw.cs, jk_dat, jk_dat, k6, k7, k8, k9, k10, k11, hg4⟩, rfl⟩
theorem Sl4.up {r : Rho} (h : Sl4 r) : Sl4' r := by
  obtain ⟨a2, cs, a4, a5, a6, a7, a8, a9, a10, a11, g, ⟨j2, _, j4, j5, j6, j7, j8, j9, j10, j11, hg⟩, rfl⟩ := h
  exact ⟨_, _, _, _, _, _, _, _, _, _, _, ⟨j2, jk_dat, j4, j5, j6, j7, j8, j9, j10, j11, hg⟩, rfl⟩
theorem wa_one {cs : List Nat} (h : CsOk cs) {p : Nat} (hp : p = prodN cs) : (Wa.mk cs [List.replicate p (-1)]).Ok := by
  refine ⟨h, Nat.le_refl 1, (by show 1 ≤ 6; decide), ?_⟩
  intro r hr
  rw [List.mem_singleton.mp hr]
  refine ⟨by rw [List.length_replicate, hp], fun x hx => ?_⟩
  rw [(List.mem_replicate.mp hx).2]
  exact ⟨by decide, by show (-1 : Int) < (1 : Nat); decide⟩
theorem law_core {Fs : Nat → Fn} (h13 : GoesOk (Fs 13)) (h20 : TakeOk (Fs 20)) (h22 : TimesOk (Fs 22)) (h23 : WatcherOfOk (Fs 23)) (h24 : LGoesOk (Fs 24)) (h25 : ChoicesOk (Fs 25)) (h26 : BadWOk (Fs 26)) (h27 : ToldOk (Fs 27)) {g : List GE} (hg : Bx g) : wSs Fs bl ⟨[none, some (.gl 0), none, none, none, none, none, none, none, none, none, none], g⟩ (fun _ => False) (fun v _ => v = .dat (.bool true)) (fun _ => False) (fun _ => False) fun _ _ => False := by
  unfold bl
  refine wSs_cut Sl4 ?_ ?_
  · fail "go"
    refine exO (op_rng (mid_of (by decide) (by decide))) ?_
    refine ⟨fun j r => (j = 0 → Sl4' r) ∧ (0 < j → Sl4 r), ⟨fun _ => ⟨_, _, _, _, _, _, _, _, _, _, _, ⟨jk_none, jk_none, jk_none, jk_none, jk_none, jk_none, jk_none, jk_none, jk_none, jk_none, hg⟩, rfl⟩, fun h => absurd h (Nat.lt_irrefl _)⟩, ?_, fun r2 h => h.2 (by decide)⟩
    rintro j x r e ⟨h1, h2⟩
    have h3 : Sl4' r := by
      rcases Nat.eq_zero_or_pos j with h | h
      · exact h1 h
      · exact (h2 h).up
    obtain ⟨a2, a3, a4, a5, a6, a7, a8, a9, a10, a11, g, ⟨j2, j3, j4, j5, j6, j7, j8, j9, j10, j11, hg⟩, rfl⟩ := h3
    exact ⟨_, wr_jk (by exact j2), Dn.at_mono (turn_core h13 h20 h23 h24 h25 h26 h27 ⟨_, _, _, _, _, _, _, _, _, _, _, ⟨jk_dat, j3, j4, j5, j6, j7, j8, j9, j10, j11, hg⟩, rfl⟩) (fun _ h => ⟨fun e => absurd e (Nat.succ_ne_zero _), fun _ => h⟩) (fun _ _ h => h) (fun _ h => h.elim) (fun _ h => h.elim) fun _ _ h => h⟩
  rintro _ ⟨a2, cs, a4, a5, a6, a7, a8, a9, a10, a11, g, ⟨j2, hcs, j4, j5, j6, j7, j8, j9, j10, j11, hg⟩, rfl⟩
  have hpr := hcs.prod
  obtain ⟨k, hk⟩ : ∃ k, prodN cs = k + 1 := ⟨prodN cs - 1, by omega⟩
  fail "go"
  refine call_times h22 rfl hcs.wi ?_
  rw [prodI_N, hk]
  fail "go"
  refine exO (op_of rfl (mulT (by omega))) ?_
  fail "go"
  refine exO (op_addT (lim_of (by rw [List.length_append, List.length_map]; have := hcs.l3; simp; omega))) ?_
  fail "go"
  refine call_times h22 rfl hcs.wi ?_
  rw [prodI_N, hk]
  fail "go"
  refine exO (op_of rfl (mulT (by omega))) ?_
  fail "go"
  have hv := wa_one hcs hk.symm
  have ey : PyData.tuple [.tuple ((cs.map fun (n : Nat) => PyData.int (n : Int)) ++ [PyData.int 1]), .tuple [iT (List.replicate (k + 1) (-1))]] = (Wa.mk (cs ++ [1]) [List.replicate (k + 1) (-1)]).enc := by
    unfold Wa.enc nT
    rw [List.map_append]
    rfl
  have hr : RetV ((Fs 27).run [.dat (.int 3), .dat (Wa.mk cs [List.replicate (k + 1) (-1)]).enc, .dat (.tuple [.tuple ((cs.map fun (n : Nat) => PyData.int (n : Int)) ++ [PyData.int 1]), .tuple [iT (List.replicate (k + 1) (-1))]])] []) refW := by
    by_cases h3 : cs.length ≤ 2
    · rw [ey]
      have hc2 : CsOk (cs ++ [1]) := ⟨by rw [List.length_append]; simp, by rw [List.length_append]; simp; omega, fun c hc => by
        rcases List.mem_append.mp hc with h | h
        · exact hcs.c c h
        · rw [List.mem_singleton.mp h]; exact ⟨by decide, by decide⟩⟩
      refine h27.unlike _ _ hv (wa_one hc2 (by rw [prodN_snoc, hk, Nat.mul_one])) ?_
      intro e
      have := congrArg List.length e
      rw [List.length_append] at this
      simp at this
    · exact h27.bad3 _ _ (wat_cl (by rw [List.length_append, List.length_map]; simp; omega))
  refine call_ret (ds := [.int 3, (Wa.mk cs [List.replicate (k + 1) (-1)]).enc, .tuple [.tuple ((cs.map fun (n : Nat) => PyData.int (n : Int)) ++ [PyData.int 1]), .tuple [iT (List.replicate (k + 1) (-1))]]]) h27.pu h27.n rfl hr rfl ?_
  fail "go"
  rfl
theorem w1 : WholeOk f1 := whole_ok
theorem w2 : WithinOk f2 := within_ok (Fs := ofL l2) (show WholeOk (ofL l2 1) from w1)
theorem w8 : TimesOk f8 := times_ok
theorem w9 : WatcherOk f9 := is_watcher_ok (Fs := ofL l9) (show WithinOk (ofL l9 2) from w2) (show TimesOk (ofL l9 8) from w8)
theorem w10 : CheckWOk f10 := check_watcher_ok (Fs := ofL l10) (show WatcherOk (ofL l10 9) from w9)
theorem w11 : PlaceOk f11 := place_ok
theorem w12 : StepOk f12 := step_ok (Fs := ofL l12) (show PlaceOk (ofL l12 11) from w11)
theorem w13 : GoesOk f13 := goes_ok (Fs := ofL l13) (show CheckWOk (ofL l13 10) from w10) (show StepOk (ofL l13 12) from w12)
theorem w15 : Err3 f15 := accepts_err (Fs := ofL l15) (show CheckWOk (ofL l15 10) from w10)
theorem w17 : MeetErr f17 := meet_err (Fs := ofL l17) (show CheckWOk (ofL l17 10) from w10)
theorem w18 : Err2 f18 := turned_err (Fs := ofL l18) (show CheckWOk (ofL l18 10) from w10)
theorem w20 : TakeOk f20 := take_ok
theorem w21 : PickOk f21 := pick_ok (Fs := ofL l21) (show TakeOk (ofL l21 20) from w20)
theorem w22 : TimesOk f22 := law_times_ok
theorem w22b : TimesB f22 := timesB_ok
theorem w23 : WatcherOfOk f23 := watcherOf_ok (Fs := ofL l23) (show TakeOk (ofL l23 20) from w20) (show PickOk (ofL l23 21) from w21) (show TimesOk (ofL l23 22) from w22)
theorem w24 : LGoesOk f24 := law_goes_ok
theorem w25 : ChoicesOk f25 := choices_ok
theorem w26 : BadWOk f26 := bad_watcher4 (Fs := ofL l26) (show TakeOk (ofL l26 20) from w20) (show PickOk (ofL l26 21) from w21) (show TimesB (ofL l26 22) from w22b)
theorem w27 : ToldOk f27 := told_ok (Fs := ofL l27) (show CheckWOk (ofL l27 10) from w10) (show GoesOk (ofL l27 13) from w13) (show Err3 (ofL l27 15) from w15) (show MeetErr (ofL l27 17) from w17) (show Err2 (ofL l27 18) from w18) rfl
theorem plain (ns : List Int) (h : ns.length ≤ 63) : ∃ g, run ns = some (.ret (.dat (.bool true)) g) :=
  law_of (law_core (Fs := ofL l28) w13 w20 w22 w23 w24 w25 w26 w27 (Bx_box ns))
end K04
end Mp
set_option Elab.async false
set_option linter.all false
set_option maxRecDepth 100000
set_option maxHeartbeats 4000000
/-! G04: table, checks, facts -/
namespace Mp
namespace K04
open PySem PySem.Spec PyProof.Rows L2
def fns0 : List (Str × List Str) := [("_law_class", ["_law_e"]), ("is_whole", ["x"]), ("is_within", ["x", "low", "high"]), ("is_rising", ["x", "many"]), ("combined", ["lists"]), ("is_system", ["s"]), ("check_system", ["s"]), ("is_path_of", ["s", "path"]), ("how_many_tuples", ["counts"]), ("is_watcher", ["w"]), ("check_watcher", ["w"]), ("place_of", ["counts", "colours"]), ("step", ["w", "state", "colours"]), ("goes", ["w", "state", "colours"]), ("belong_together", ["w", "systems", "paths"]), ("accepts_paths", ["w", "systems", "paths"]), ("all_colours", ["counts"]), ("meet", ["v", "w"]), ("turned", ["w", "order"]), ("_law_box", ["_law_script"])]
def fns1 : List (Str × List Str) := [("_law_take", ["_law_box_here", "_law_m"]), ("_law_pick", ["_law_box_here", "_law_menu"]), ("_law_times", ["_law_counts"]), ("_law_watcher", ["_law_box_here", "_law_counts", "_law_most"]), ("_law_goes", ["_law_w", "_law_z", "_law_colours"]), ("_law_choices", ["_law_lists"]), ("_law_bad_watcher", ["_law_box_here", "_law_w"]), ("_law_told", ["_law_way", "_law_w", "_law_other"])]
def tT : Tab := { fns := fns0 ++ fns1, blt := ["len", "int", "abs", "tuple", "list", "sorted", "repr", "min", "max", "range", "isinstance", "bool", "str", "zip", "enumerate", "set", "ValueError"], cst := [("MOST_COLOURS", 4), ("MOST_STATES_system", 8), ("MOST_RUNS", 3), ("MOST_STATES_watcher", 6)], exs := [("ParallaxError", 0), ("BadSystem", 1), ("BadWatcher", 2), ("BadQuestion", 3), ("BadPath", 4), ("TooMuch", 5)], kls := [(0, "_law_class")], nx := 6 }
def xs : List Str := ["ParallaxError", "BadSystem", "BadWatcher", "BadQuestion", "BadPath", "TooMuch"]
def top (i : Nat) : Stmt := PySem.Challenge.pw_parallax_k04_what_is_a_watcher.main.body.getD i (.Pass default)
def s0 : Stmt := top 41
def s1 : Stmt := top 8
def s2 : Stmt := top 9
def s3 : Stmt := top 10
def s4 : Stmt := top 11
def s5 : Stmt := top 15
def s6 : Stmt := top 16
def s7 : Stmt := top 17
def s8 : Stmt := top 21
def s9 : Stmt := top 22
def s10 : Stmt := top 23
def s11 : Stmt := top 24
def s12 : Stmt := top 25
def s13 : Stmt := top 26
def s14 : Stmt := top 27
def s15 : Stmt := top 28
def s16 : Stmt := top 29
def s17 : Stmt := top 30
def s18 : Stmt := top 31
def s19 : Stmt := top 33
def s20 : Stmt := top 34
def s21 : Stmt := top 35
def s22 : Stmt := top 36
def s23 : Stmt := top 37
def s24 : Stmt := top 38
def s25 : Stmt := top 39
def s26 : Stmt := top 40
def s27 : Stmt := top 42
def sl : Stmt := top 43
theorem c0 : klsOk { tT with kls := [] } (C8.fnScope s0) "_law_e" "_law_kinds" (C8.fnBody s0) = true := by decide +kernel
theorem sc0 : FnScope ["_law_e", "_law_kinds"] ["_law_e"] (C8.fnScope s0) := C8.fnScope_by (by decide +kernel)
theorem bd0 : ∀ (kV doc pm : Value) (an : Option Addr) (cdv ct : Value) (us : List Value), us.length = (["_law_e"] : List Str).length → bindArgs (PySem.W.fnOf "_law_class" "_law_class" (C8.fnArgs s0) (C8.fnBody s0) (C8.fnScope s0) .none kV doc pm an cdv ct) ⟨us, []⟩ = pure ((["_law_e"] : List Str).zip us) := fun _ _ _ _ _ _ us hl => match us, hl with | [_], _ => rfl
theorem c1 : okSs tT 1 n1 (C8.fnScope s1) b1 (C8.fnBody s1) = true := by decide +kernel
theorem sc1 : FnScope n1 ["x"] (C8.fnScope s1) := C8.fnScope_by (by decide +kernel)
theorem bd1 : ∀ (kV doc pm : Value) (an : Option Addr) (cdv ct : Value) (us : List Value), us.length = (["x"] : List Str).length → bindArgs (PySem.W.fnOf "is_whole" "is_whole" (C8.fnArgs s1) (C8.fnBody s1) (C8.fnScope s1) .none kV doc pm an cdv ct) ⟨us, []⟩ = pure ((["x"] : List Str).zip us) := fun _ _ _ _ _ _ us hl => match us, hl with | [_], _ => rfl
theorem c2 : okSs tT 2 n2 (C8.fnScope s2) b2 (C8.fnBody s2) = true := by decide +kernel
theorem sc2 : FnScope n2 ["x", "low", "high"] (C8.fnScope s2) := C8.fnScope_by (by decide +kernel)
theorem bd2 : ∀ (kV doc pm : Value) (an : Option Addr) (cdv ct : Value) (us : List Value), us.length = (["x", "low", "high"] : List Str).length → bindArgs (PySem.W.fnOf "is_within" "is_within" (C8.fnArgs s2) (C8.fnBody s2) (C8.fnScope s2) .none kV doc pm an cdv ct) ⟨us, []⟩ = pure ((["x", "low", "high"] : List Str).zip us) := fun _ _ _ _ _ _ us hl => match us, hl with | [_, _, _], _ => rfl
theorem c3 : okSs tT 3 n3 (C8.fnScope s3) b3 (C8.fnBody s3) = true := by decide +kernel
theorem sc3 : FnScope n3 ["x", "many"] (C8.fnScope s3) := C8.fnScope_by (by decide +kernel)
theorem bd3 : ∀ (kV doc pm : Value) (an : Option Addr) (cdv ct : Value) (us : List Value), us.length = (["x", "many"] : List Str).length → bindArgs (PySem.W.fnOf "is_rising" "is_rising" (C8.fnArgs s3) (C8.fnBody s3) (C8.fnScope s3) .none kV doc pm an cdv ct) ⟨us, []⟩ = pure ((["x", "many"] : List Str).zip us) := fun _ _ _ _ _ _ us hl => match us, hl with | [_, _], _ => rfl
theorem c4 : okSs tT 4 n4 (C8.fnScope s4) b4 (C8.fnBody s4) = true := by decide +kernel
theorem sc4 : FnScope n4 ["lists"] (C8.fnScope s4) := C8.fnScope_by (by decide +kernel)
theorem bd4 : ∀ (kV doc pm : Value) (an : Option Addr) (cdv ct : Value) (us : List Value), us.length = (["lists"] : List Str).length → bindArgs (PySem.W.fnOf "combined" "combined" (C8.fnArgs s4) (C8.fnBody s4) (C8.fnScope s4) .none kV doc pm an cdv ct) ⟨us, []⟩ = pure ((["lists"] : List Str).zip us) := fun _ _ _ _ _ _ us hl => match us, hl with | [_], _ => rfl
theorem c5 : okSs tT 5 n5 (C8.fnScope s5) b5 (C8.fnBody s5) = true := by decide +kernel
theorem sc5 : FnScope n5 ["s"] (C8.fnScope s5) := C8.fnScope_by (by decide +kernel)
theorem bd5 : ∀ (kV doc pm : Value) (an : Option Addr) (cdv ct : Value) (us : List Value), us.length = (["s"] : List Str).length → bindArgs (PySem.W.fnOf "is_system" "is_system" (C8.fnArgs s5) (C8.fnBody s5) (C8.fnScope s5) .none kV doc pm an cdv ct) ⟨us, []⟩ = pure ((["s"] : List Str).zip us) := fun _ _ _ _ _ _ us hl => match us, hl with | [_], _ => rfl
theorem c6 : okSs tT 6 n6 (C8.fnScope s6) b6 (C8.fnBody s6) = true := by decide +kernel
theorem sc6 : FnScope n6 ["s"] (C8.fnScope s6) := C8.fnScope_by (by decide +kernel)
theorem bd6 : ∀ (kV doc pm : Value) (an : Option Addr) (cdv ct : Value) (us : List Value), us.length = (["s"] : List Str).length → bindArgs (PySem.W.fnOf "check_system" "check_system" (C8.fnArgs s6) (C8.fnBody s6) (C8.fnScope s6) .none kV doc pm an cdv ct) ⟨us, []⟩ = pure ((["s"] : List Str).zip us) := fun _ _ _ _ _ _ us hl => match us, hl with | [_], _ => rfl
theorem c7 : okSs tT 7 n7 (C8.fnScope s7) b7 (C8.fnBody s7) = true := by decide +kernel
theorem sc7 : FnScope n7 ["s", "path"] (C8.fnScope s7) := C8.fnScope_by (by decide +kernel)
theorem bd7 : ∀ (kV doc pm : Value) (an : Option Addr) (cdv ct : Value) (us : List Value), us.length = (["s", "path"] : List Str).length → bindArgs (PySem.W.fnOf "is_path_of" "is_path_of" (C8.fnArgs s7) (C8.fnBody s7) (C8.fnScope s7) .none kV doc pm an cdv ct) ⟨us, []⟩ = pure ((["s", "path"] : List Str).zip us) := fun _ _ _ _ _ _ us hl => match us, hl with | [_, _], _ => rfl
theorem c8 : okSs tT 8 n8 (C8.fnScope s8) b8 (C8.fnBody s8) = true := by decide +kernel
theorem sc8 : FnScope n8 ["counts"] (C8.fnScope s8) := C8.fnScope_by (by decide +kernel)
theorem bd8 : ∀ (kV doc pm : Value) (an : Option Addr) (cdv ct : Value) (us : List Value), us.length = (["counts"] : List Str).length → bindArgs (PySem.W.fnOf "how_many_tuples" "how_many_tuples" (C8.fnArgs s8) (C8.fnBody s8) (C8.fnScope s8) .none kV doc pm an cdv ct) ⟨us, []⟩ = pure ((["counts"] : List Str).zip us) := fun _ _ _ _ _ _ us hl => match us, hl with | [_], _ => rfl
theorem c9 : okSs tT 9 n9 (C8.fnScope s9) b9 (C8.fnBody s9) = true := by decide +kernel
theorem sc9 : FnScope n9 ["w"] (C8.fnScope s9) := C8.fnScope_by (by decide +kernel)
theorem bd9 : ∀ (kV doc pm : Value) (an : Option Addr) (cdv ct : Value) (us : List Value), us.length = (["w"] : List Str).length → bindArgs (PySem.W.fnOf "is_watcher" "is_watcher" (C8.fnArgs s9) (C8.fnBody s9) (C8.fnScope s9) .none kV doc pm an cdv ct) ⟨us, []⟩ = pure ((["w"] : List Str).zip us) := fun _ _ _ _ _ _ us hl => match us, hl with | [_], _ => rfl
theorem c10 : okSs tT 10 n10 (C8.fnScope s10) b10 (C8.fnBody s10) = true := by decide +kernel
theorem sc10 : FnScope n10 ["w"] (C8.fnScope s10) := C8.fnScope_by (by decide +kernel)
theorem bd10 : ∀ (kV doc pm : Value) (an : Option Addr) (cdv ct : Value) (us : List Value), us.length = (["w"] : List Str).length → bindArgs (PySem.W.fnOf "check_watcher" "check_watcher" (C8.fnArgs s10) (C8.fnBody s10) (C8.fnScope s10) .none kV doc pm an cdv ct) ⟨us, []⟩ = pure ((["w"] : List Str).zip us) := fun _ _ _ _ _ _ us hl => match us, hl with | [_], _ => rfl
theorem c11 : okSs tT 11 n11 (C8.fnScope s11) b11 (C8.fnBody s11) = true := by decide +kernel
theorem sc11 : FnScope n11 ["counts", "colours"] (C8.fnScope s11) := C8.fnScope_by (by decide +kernel)
theorem bd11 : ∀ (kV doc pm : Value) (an : Option Addr) (cdv ct : Value) (us : List Value), us.length = (["counts", "colours"] : List Str).length → bindArgs (PySem.W.fnOf "place_of" "place_of" (C8.fnArgs s11) (C8.fnBody s11) (C8.fnScope s11) .none kV doc pm an cdv ct) ⟨us, []⟩ = pure ((["counts", "colours"] : List Str).zip us) := fun _ _ _ _ _ _ us hl => match us, hl with | [_, _], _ => rfl
theorem c12 : okSs tT 12 n12 (C8.fnScope s12) b12 (C8.fnBody s12) = true := by decide +kernel
theorem sc12 : FnScope n12 ["w", "state", "colours"] (C8.fnScope s12) := C8.fnScope_by (by decide +kernel)
theorem bd12 : ∀ (kV doc pm : Value) (an : Option Addr) (cdv ct : Value) (us : List Value), us.length = (["w", "state", "colours"] : List Str).length → bindArgs (PySem.W.fnOf "step" "step" (C8.fnArgs s12) (C8.fnBody s12) (C8.fnScope s12) .none kV doc pm an cdv ct) ⟨us, []⟩ = pure ((["w", "state", "colours"] : List Str).zip us) := fun _ _ _ _ _ _ us hl => match us, hl with | [_, _, _], _ => rfl
theorem c13 : okSs tT 13 n13 (C8.fnScope s13) b13 (C8.fnBody s13) = true := by decide +kernel
theorem sc13 : FnScope n13 ["w", "state", "colours"] (C8.fnScope s13) := C8.fnScope_by (by decide +kernel)
theorem bd13 : ∀ (kV doc pm : Value) (an : Option Addr) (cdv ct : Value) (us : List Value), us.length = (["w", "state", "colours"] : List Str).length → bindArgs (PySem.W.fnOf "goes" "goes" (C8.fnArgs s13) (C8.fnBody s13) (C8.fnScope s13) .none kV doc pm an cdv ct) ⟨us, []⟩ = pure ((["w", "state", "colours"] : List Str).zip us) := fun _ _ _ _ _ _ us hl => match us, hl with | [_, _, _], _ => rfl
theorem bd14 : ∀ (kV doc pm : Value) (an : Option Addr) (cdv ct : Value) (us : List Value), us.length = (["w", "systems", "paths"] : List Str).length → bindArgs (PySem.W.fnOf "belong_together" "belong_together" (C8.fnArgs s14) (C8.fnBody s14) (C8.fnScope s14) .none kV doc pm an cdv ct) ⟨us, []⟩ = pure ((["w", "systems", "paths"] : List Str).zip us) := fun _ _ _ _ _ _ us hl => match us, hl with | [_, _, _], _ => rfl
theorem c15 : okSs tT 15 n15 (C8.fnScope s15) b15 (C8.fnBody s15) = true := by decide +kernel
theorem sc15 : FnScope n15 ["w", "systems", "paths"] (C8.fnScope s15) := C8.fnScope_by (by decide +kernel)
theorem bd15 : ∀ (kV doc pm : Value) (an : Option Addr) (cdv ct : Value) (us : List Value), us.length = (["w", "systems", "paths"] : List Str).length → bindArgs (PySem.W.fnOf "accepts_paths" "accepts_paths" (C8.fnArgs s15) (C8.fnBody s15) (C8.fnScope s15) .none kV doc pm an cdv ct) ⟨us, []⟩ = pure ((["w", "systems", "paths"] : List Str).zip us) := fun _ _ _ _ _ _ us hl => match us, hl with | [_, _, _], _ => rfl
theorem c16 : okSs tT 16 n16 (C8.fnScope s16) b16 (C8.fnBody s16) = true := by decide +kernel
theorem sc16 : FnScope n16 ["counts"] (C8.fnScope s16) := C8.fnScope_by (by decide +kernel)
theorem bd16 : ∀ (kV doc pm : Value) (an : Option Addr) (cdv ct : Value) (us : List Value), us.length = (["counts"] : List Str).length → bindArgs (PySem.W.fnOf "all_colours" "all_colours" (C8.fnArgs s16) (C8.fnBody s16) (C8.fnScope s16) .none kV doc pm an cdv ct) ⟨us, []⟩ = pure ((["counts"] : List Str).zip us) := fun _ _ _ _ _ _ us hl => match us, hl with | [_], _ => rfl
theorem c17 : okSs tT 17 n17 (C8.fnScope s17) b17 (C8.fnBody s17) = true := by decide +kernel
theorem sc17 : FnScope n17 ["v", "w"] (C8.fnScope s17) := C8.fnScope_by (by decide +kernel)
theorem bd17 : ∀ (kV doc pm : Value) (an : Option Addr) (cdv ct : Value) (us : List Value), us.length = (["v", "w"] : List Str).length → bindArgs (PySem.W.fnOf "meet" "meet" (C8.fnArgs s17) (C8.fnBody s17) (C8.fnScope s17) .none kV doc pm an cdv ct) ⟨us, []⟩ = pure ((["v", "w"] : List Str).zip us) := fun _ _ _ _ _ _ us hl => match us, hl with | [_, _], _ => rfl
theorem c18 : okSs tT 18 n18 (C8.fnScope s18) b18 (C8.fnBody s18) = true := by decide +kernel
theorem sc18 : FnScope n18 ["w", "order"] (C8.fnScope s18) := C8.fnScope_by (by decide +kernel)
theorem bd18 : ∀ (kV doc pm : Value) (an : Option Addr) (cdv ct : Value) (us : List Value), us.length = (["w", "order"] : List Str).length → bindArgs (PySem.W.fnOf "turned" "turned" (C8.fnArgs s18) (C8.fnBody s18) (C8.fnScope s18) .none kV doc pm an cdv ct) ⟨us, []⟩ = pure ((["w", "order"] : List Str).zip us) := fun _ _ _ _ _ _ us hl => match us, hl with | [_, _], _ => rfl
theorem cb : boxSub { tT with kls := [] } (C8.fnScope s19) "_law_script" "_law_x" (C8.fnBody s19) = true := by decide +kernel
theorem scb : FnScope ["_law_script", "_law_x"] ["_law_script"] (C8.fnScope s19) := C8.fnScope_by (by decide +kernel)
theorem bd19 : ∀ (kV doc pm : Value) (an : Option Addr) (cdv ct : Value) (us : List Value), us.length = (["_law_script"] : List Str).length → bindArgs (PySem.W.fnOf "_law_box" "_law_box" (C8.fnArgs s19) (C8.fnBody s19) (C8.fnScope s19) .none kV doc pm an cdv ct) ⟨us, []⟩ = pure ((["_law_script"] : List Str).zip us) := fun _ _ _ _ _ _ us hl => match us, hl with | [_], _ => rfl
theorem c20 : okSs tT 20 n20 (C8.fnScope s20) b20 (C8.fnBody s20) = true := by decide +kernel
theorem sc20 : FnScope n20 ["_law_box_here", "_law_m"] (C8.fnScope s20) := C8.fnScope_by (by decide +kernel)
theorem bd20 : ∀ (kV doc pm : Value) (an : Option Addr) (cdv ct : Value) (us : List Value), us.length = (["_law_box_here", "_law_m"] : List Str).length → bindArgs (PySem.W.fnOf "_law_take" "_law_take" (C8.fnArgs s20) (C8.fnBody s20) (C8.fnScope s20) .none kV doc pm an cdv ct) ⟨us, []⟩ = pure ((["_law_box_here", "_law_m"] : List Str).zip us) := fun _ _ _ _ _ _ us hl => match us, hl with | [_, _], _ => rfl
theorem c21 : okSs tT 21 n21 (C8.fnScope s21) b21 (C8.fnBody s21) = true := by decide +kernel
theorem sc21 : FnScope n21 ["_law_box_here", "_law_menu"] (C8.fnScope s21) := C8.fnScope_by (by decide +kernel)
theorem bd21 : ∀ (kV doc pm : Value) (an : Option Addr) (cdv ct : Value) (us : List Value), us.length = (["_law_box_here", "_law_menu"] : List Str).length → bindArgs (PySem.W.fnOf "_law_pick" "_law_pick" (C8.fnArgs s21) (C8.fnBody s21) (C8.fnScope s21) .none kV doc pm an cdv ct) ⟨us, []⟩ = pure ((["_law_box_here", "_law_menu"] : List Str).zip us) := fun _ _ _ _ _ _ us hl => match us, hl with | [_, _], _ => rfl
theorem c22 : okSs tT 22 n22 (C8.fnScope s22) b22 (C8.fnBody s22) = true := by decide +kernel
theorem sc22 : FnScope n22 ["_law_counts"] (C8.fnScope s22) := C8.fnScope_by (by decide +kernel)
theorem bd22 : ∀ (kV doc pm : Value) (an : Option Addr) (cdv ct : Value) (us : List Value), us.length = (["_law_counts"] : List Str).length → bindArgs (PySem.W.fnOf "_law_times" "_law_times" (C8.fnArgs s22) (C8.fnBody s22) (C8.fnScope s22) .none kV doc pm an cdv ct) ⟨us, []⟩ = pure ((["_law_counts"] : List Str).zip us) := fun _ _ _ _ _ _ us hl => match us, hl with | [_], _ => rfl
theorem c23 : okSs tT 23 n23 (C8.fnScope s23) b23 (C8.fnBody s23) = true := by decide +kernel
theorem sc23 : FnScope n23 ["_law_box_here", "_law_counts", "_law_most"] (C8.fnScope s23) := C8.fnScope_by (by decide +kernel)
theorem bd23 : ∀ (kV doc pm : Value) (an : Option Addr) (cdv ct : Value) (us : List Value), us.length = (["_law_box_here", "_law_counts", "_law_most"] : List Str).length → bindArgs (PySem.W.fnOf "_law_watcher" "_law_watcher" (C8.fnArgs s23) (C8.fnBody s23) (C8.fnScope s23) .none kV doc pm an cdv ct) ⟨us, []⟩ = pure ((["_law_box_here", "_law_counts", "_law_most"] : List Str).zip us) := fun _ _ _ _ _ _ us hl => match us, hl with | [_, _, _], _ => rfl
theorem c24 : okSs tT 24 n24 (C8.fnScope s24) b24 (C8.fnBody s24) = true := by decide +kernel
theorem sc24 : FnScope n24 ["_law_w", "_law_z", "_law_colours"] (C8.fnScope s24) := C8.fnScope_by (by decide +kernel)
theorem bd24 : ∀ (kV doc pm : Value) (an : Option Addr) (cdv ct : Value) (us : List Value), us.length = (["_law_w", "_law_z", "_law_colours"] : List Str).length → bindArgs (PySem.W.fnOf "_law_goes" "_law_goes" (C8.fnArgs s24) (C8.fnBody s24) (C8.fnScope s24) .none kV doc pm an cdv ct) ⟨us, []⟩ = pure ((["_law_w", "_law_z", "_law_colours"] : List Str).zip us) := fun _ _ _ _ _ _ us hl => match us, hl with | [_, _, _], _ => rfl
theorem c25 : okSs tT 25 n25 (C8.fnScope s25) b25 (C8.fnBody s25) = true := by decide +kernel
theorem sc25 : FnScope n25 ["_law_lists"] (C8.fnScope s25) := C8.fnScope_by (by decide +kernel)
theorem bd25 : ∀ (kV doc pm : Value) (an : Option Addr) (cdv ct : Value) (us : List Value), us.length = (["_law_lists"] : List Str).length → bindArgs (PySem.W.fnOf "_law_choices" "_law_choices" (C8.fnArgs s25) (C8.fnBody s25) (C8.fnScope s25) .none kV doc pm an cdv ct) ⟨us, []⟩ = pure ((["_law_lists"] : List Str).zip us) := fun _ _ _ _ _ _ us hl => match us, hl with | [_], _ => rfl
theorem c26 : okSs tT 26 n26 (C8.fnScope s26) b26 (C8.fnBody s26) = true := by decide +kernel
theorem sc26 : FnScope n26 ["_law_box_here", "_law_w"] (C8.fnScope s26) := C8.fnScope_by (by decide +kernel)
theorem bd26 : ∀ (kV doc pm : Value) (an : Option Addr) (cdv ct : Value) (us : List Value), us.length = (["_law_box_here", "_law_w"] : List Str).length → bindArgs (PySem.W.fnOf "_law_bad_watcher" "_law_bad_watcher" (C8.fnArgs s26) (C8.fnBody s26) (C8.fnScope s26) .none kV doc pm an cdv ct) ⟨us, []⟩ = pure ((["_law_box_here", "_law_w"] : List Str).zip us) := fun _ _ _ _ _ _ us hl => match us, hl with | [_, _], _ => rfl
theorem c27 : okSs tT 27 n27 (C8.fnScope s27) b27 (C8.fnBody s27) = true := by decide +kernel
theorem sc27 : FnScope n27 ["_law_way", "_law_w", "_law_other"] (C8.fnScope s27) := C8.fnScope_by (by decide +kernel)
theorem bd27 : ∀ (kV doc pm : Value) (an : Option Addr) (cdv ct : Value) (us : List Value), us.length = (["_law_way", "_law_w", "_law_other"] : List Str).length → bindArgs (PySem.W.fnOf "_law_told" "_law_told" (C8.fnArgs s27) (C8.fnBody s27) (C8.fnScope s27) .none kV doc pm an cdv ct) ⟨us, []⟩ = pure ((["_law_way", "_law_w", "_law_other"] : List Str).zip us) := fun _ _ _ _ _ _ us hl => match us, hl with | [_, _, _], _ => rfl
theorem bdl : ∀ (kV doc pm : Value) (an : Option Addr) (cdv ct : Value) (us : List Value), us.length = (["_law_script"] : List Str).length → bindArgs (PySem.W.fnOf "law" "law" (C8.fnArgs sl) (C8.fnBody sl) (C8.fnScope sl) .none kV doc pm an cdv ct) ⟨us, []⟩ = pure ((["_law_script"] : List Str).zip us) := fun _ _ _ _ _ _ us hl => match us, hl with | [_], _ => rfl
theorem cl : lawOk tT 28 nl (C8.fnScope sl) "_law_box" "_law_script" 1 bl (C8.fnBody sl) = true := by decide +kernel
theorem scl : FnScope nl ["_law_script"] (C8.fnScope sl) := C8.fnScope_by (by decide +kernel)
section
variable {P : Program} {w : World} {K : PySem.W.Frag} {mg : Str → Option Value} {base : Heap} {h : Heap}
theorem facts0 (hT : tabB { tT with kls := [] } K xs = true) (X : K.In h) (G : h.Ns mainGlobals mg) : Facts { tT with kls := [] } (ofL []) (clK K xs) P w K mg base 0 := Facts.zero X G hT rfl
theorem hks (n : Nat) (h : 0 < n) : ∀ p ∈ tT.kls, p.1 < n := by
  intro p hp
  have hp : p ∈ ([(0, "_law_class")] : List (Nat × Str)) := hp
  simp at hp
  try (subst hp; exact h)
theorem facts (hT : tabB { tT with kls := [] } K xs = true) (X : K.In h) (G : h.Ns mainGlobals mg) (D0 : DefAt K "_law_class" s0 ["_law_e"]) (D1 : DefAt K "is_whole" s1 ["x"]) (D2 : DefAt K "is_within" s2 ["x", "low", "high"]) (D3 : DefAt K "is_rising" s3 ["x", "many"]) (D4 : DefAt K "combined" s4 ["lists"]) (D5 : DefAt K "is_system" s5 ["s"]) (D6 : DefAt K "check_system" s6 ["s"]) (D7 : DefAt K "is_path_of" s7 ["s", "path"]) (D8 : DefAt K "how_many_tuples" s8 ["counts"]) (D9 : DefAt K "is_watcher" s9 ["w"]) (D10 : DefAt K "check_watcher" s10 ["w"]) (D11 : DefAt K "place_of" s11 ["counts", "colours"]) (D12 : DefAt K "step" s12 ["w", "state", "colours"]) (D13 : DefAt K "goes" s13 ["w", "state", "colours"]) (D14 : DefAt K "belong_together" s14 ["w", "systems", "paths"]) (D15 : DefAt K "accepts_paths" s15 ["w", "systems", "paths"]) (D16 : DefAt K "all_colours" s16 ["counts"]) (D17 : DefAt K "meet" s17 ["v", "w"]) (D18 : DefAt K "turned" s18 ["w", "order"]) (D19 : DefAt K "_law_box" s19 ["_law_script"]) (D20 : DefAt K "_law_take" s20 ["_law_box_here", "_law_m"]) (D21 : DefAt K "_law_pick" s21 ["_law_box_here", "_law_menu"]) (D22 : DefAt K "_law_times" s22 ["_law_counts"]) (D23 : DefAt K "_law_watcher" s23 ["_law_box_here", "_law_counts", "_law_most"]) (D24 : DefAt K "_law_goes" s24 ["_law_w", "_law_z", "_law_colours"]) (D25 : DefAt K "_law_choices" s25 ["_law_lists"]) (D26 : DefAt K "_law_bad_watcher" s26 ["_law_box_here", "_law_w"]) (D27 : DefAt K "_law_told" s27 ["_law_way", "_law_w", "_law_other"]) : Facts tT (ofL l28) (clK K xs) P w K mg base l28.length := by
  have F1 : Facts tT (ofL l1) (clK K xs) P w K mg base l1.length := Facts.first (x := "_law_class") (facts0 hT X G) X G rfl rfl D0 sc0 c0
  have F2 : Facts tT (ofL l2) (clK K xs) P w K mg base l2.length := Facts.plain (l := l1) (N := n1) (B := b1) true F1 rfl rfl X G (hks (l1.length) (by decide)) rfl D1 sc1 c1
  have F3 : Facts tT (ofL l3) (clK K xs) P w K mg base l3.length := Facts.plain (l := l2) (N := n2) (B := b2) true F2 rfl rfl X G (hks (l2.length) (by decide)) rfl D2 sc2 c2
  have F4 : Facts tT (ofL l4) (clK K xs) P w K mg base l4.length := Facts.plain (l := l3) (N := n3) (B := b3) true F3 rfl rfl X G (hks (l3.length) (by decide)) rfl D3 sc3 c3
  have F5 : Facts tT (ofL l5) (clK K xs) P w K mg base l5.length := Facts.plain (l := l4) (N := n4) (B := b4) true F4 rfl rfl X G (hks (l4.length) (by decide)) rfl D4 sc4 c4
  have F6 : Facts tT (ofL l6) (clK K xs) P w K mg base l6.length := Facts.plain (l := l5) (N := n5) (B := b5) true F5 rfl rfl X G (hks (l5.length) (by decide)) rfl D5 sc5 c5
  have F7 : Facts tT (ofL l7) (clK K xs) P w K mg base l7.length := Facts.plain (l := l6) (N := n6) (B := b6) true F6 rfl rfl X G (hks (l6.length) (by decide)) rfl D6 sc6 c6
  have F8 : Facts tT (ofL l8) (clK K xs) P w K mg base l8.length := Facts.plain (l := l7) (N := n7) (B := b7) true F7 rfl rfl X G (hks (l7.length) (by decide)) rfl D7 sc7 c7
  have F9 : Facts tT (ofL l9) (clK K xs) P w K mg base l9.length := Facts.plain (l := l8) (N := n8) (B := b8) true F8 rfl rfl X G (hks (l8.length) (by decide)) rfl D8 sc8 c8
  have F10 : Facts tT (ofL l10) (clK K xs) P w K mg base l10.length := Facts.plain (l := l9) (N := n9) (B := b9) true F9 rfl rfl X G (hks (l9.length) (by decide)) rfl D9 sc9 c9
  have F11 : Facts tT (ofL l11) (clK K xs) P w K mg base l11.length := Facts.plain (l := l10) (N := n10) (B := b10) true F10 rfl rfl X G (hks (l10.length) (by decide)) rfl D10 sc10 c10
  have F12 : Facts tT (ofL l12) (clK K xs) P w K mg base l12.length := Facts.plain (l := l11) (N := n11) (B := b11) true F11 rfl rfl X G (hks (l11.length) (by decide)) rfl D11 sc11 c11
  have F13 : Facts tT (ofL l13) (clK K xs) P w K mg base l13.length := Facts.plain (l := l12) (N := n12) (B := b12) true F12 rfl rfl X G (hks (l12.length) (by decide)) rfl D12 sc12 c12
  have F14 : Facts tT (ofL l14) (clK K xs) P w K mg base l14.length := Facts.plain (l := l13) (N := n13) (B := b13) true F13 rfl rfl X G (hks (l13.length) (by decide)) rfl D13 sc13 c13
  have F15 : Facts tT (ofL l15) (clK K xs) P w K mg base l15.length := Facts.void (l := l14) F14 rfl X G (hks (l14.length) (by decide)) rfl D14
  have F16 : Facts tT (ofL l16) (clK K xs) P w K mg base l16.length := Facts.plain (l := l15) (N := n15) (B := b15) true F15 rfl rfl X G (hks (l15.length) (by decide)) rfl D15 sc15 c15
  have F17 : Facts tT (ofL l17) (clK K xs) P w K mg base l17.length := Facts.plain (l := l16) (N := n16) (B := b16) true F16 rfl rfl X G (hks (l16.length) (by decide)) rfl D16 sc16 c16
  have F18 : Facts tT (ofL l18) (clK K xs) P w K mg base l18.length := Facts.plain (l := l17) (N := n17) (B := b17) true F17 rfl rfl X G (hks (l17.length) (by decide)) rfl D17 sc17 c17
  have F19 : Facts tT (ofL l19) (clK K xs) P w K mg base l19.length := Facts.plain (l := l18) (N := n18) (B := b18) true F18 rfl rfl X G (hks (l18.length) (by decide)) rfl D18 sc18 c18
  have F20 : Facts tT (ofL l20) (clK K xs) P w K mg base l20.length := Facts.void (l := l19) F19 rfl X G (hks (l19.length) (by decide)) rfl D19
  have F21 : Facts tT (ofL l21) (clK K xs) P w K mg base l21.length := Facts.plain (l := l20) (N := n20) (B := b20) false F20 rfl rfl X G (hks (l20.length) (by decide)) rfl D20 sc20 c20
  have F22 : Facts tT (ofL l22) (clK K xs) P w K mg base l22.length := Facts.plain (l := l21) (N := n21) (B := b21) false F21 rfl rfl X G (hks (l21.length) (by decide)) rfl D21 sc21 c21
  have F23 : Facts tT (ofL l23) (clK K xs) P w K mg base l23.length := Facts.plain (l := l22) (N := n22) (B := b22) true F22 rfl rfl X G (hks (l22.length) (by decide)) rfl D22 sc22 c22
  have F24 : Facts tT (ofL l24) (clK K xs) P w K mg base l24.length := Facts.plain (l := l23) (N := n23) (B := b23) false F23 rfl rfl X G (hks (l23.length) (by decide)) rfl D23 sc23 c23
  have F25 : Facts tT (ofL l25) (clK K xs) P w K mg base l25.length := Facts.plain (l := l24) (N := n24) (B := b24) true F24 rfl rfl X G (hks (l24.length) (by decide)) rfl D24 sc24 c24
  have F26 : Facts tT (ofL l26) (clK K xs) P w K mg base l26.length := Facts.plain (l := l25) (N := n25) (B := b25) true F25 rfl rfl X G (hks (l25.length) (by decide)) rfl D25 sc25 c25
  have F27 : Facts tT (ofL l27) (clK K xs) P w K mg base l27.length := Facts.plain (l := l26) (N := n26) (B := b26) false F26 rfl rfl X G (hks (l26.length) (by decide)) rfl D26 sc26 c26
  have F28 : Facts tT (ofL l28) (clK K xs) P w K mg base l28.length := Facts.plain (l := l27) (N := n27) (B := b27) true F27 rfl rfl X G (hks (l27.length) (by decide)) rfl D27 sc27 c27
  exact F28
theorem ends (hT : tabB { tT with kls := [] } K xs = true) {fa : Addr} (X : K.In h) (G : h.Ns mainGlobals mg) (hfa : mg "law" = some (.ref fa)) (D0 : DefAt K "_law_class" s0 ["_law_e"]) (D1 : DefAt K "is_whole" s1 ["x"]) (D2 : DefAt K "is_within" s2 ["x", "low", "high"]) (D3 : DefAt K "is_rising" s3 ["x", "many"]) (D4 : DefAt K "combined" s4 ["lists"]) (D5 : DefAt K "is_system" s5 ["s"]) (D6 : DefAt K "check_system" s6 ["s"]) (D7 : DefAt K "is_path_of" s7 ["s", "path"]) (D8 : DefAt K "how_many_tuples" s8 ["counts"]) (D9 : DefAt K "is_watcher" s9 ["w"]) (D10 : DefAt K "check_watcher" s10 ["w"]) (D11 : DefAt K "place_of" s11 ["counts", "colours"]) (D12 : DefAt K "step" s12 ["w", "state", "colours"]) (D13 : DefAt K "goes" s13 ["w", "state", "colours"]) (D14 : DefAt K "belong_together" s14 ["w", "systems", "paths"]) (D15 : DefAt K "accepts_paths" s15 ["w", "systems", "paths"]) (D16 : DefAt K "all_colours" s16 ["counts"]) (D17 : DefAt K "meet" s17 ["v", "w"]) (D18 : DefAt K "turned" s18 ["w", "order"]) (D19 : DefAt K "_law_box" s19 ["_law_script"]) (D20 : DefAt K "_law_take" s20 ["_law_box_here", "_law_m"]) (D21 : DefAt K "_law_pick" s21 ["_law_box_here", "_law_menu"]) (D22 : DefAt K "_law_times" s22 ["_law_counts"]) (D23 : DefAt K "_law_watcher" s23 ["_law_box_here", "_law_counts", "_law_most"]) (D24 : DefAt K "_law_goes" s24 ["_law_w", "_law_z", "_law_colours"]) (D25 : DefAt K "_law_choices" s25 ["_law_lists"]) (D26 : DefAt K "_law_bad_watcher" s26 ["_law_box_here", "_law_w"]) (D27 : DefAt K "_law_told" s27 ["_law_way", "_law_w", "_law_other"]) (Dl : DefAt K "law" sl ["_law_script"]) :
    ∃ fd : FuncData, (∀ (s : Shared) (u : Value), BindsTo s fd ⟨[u], []⟩ [("_law_script", u)]) ∧ ∀ base : Heap, K.In base → base.Ns mainGlobals mg → FnG P w K mg base (l28.length + 1) fa fd ["_law_script"] (spLaw K run) :=
  law_end (T := tT) (l := l28) X G hfa Dl D19 (fun base hK hN => facts0 hT hK hN) (fun base hK hN => facts hT hK hN D0 D1 D2 D3 D4 D5 D6 D7 D8 D9 D10 D11 D12 D13 D14 D15 D16 D17 D18 D19 D20 D21 D22 D23 D24 D25 D26 D27) scb cb scl cl (by decide)
end
end K04
end Mp
set_option Elab.async false
open PySem PySem.W PyProof.Rows
set_option maxRecDepth 100000 in
set_option maxHeartbeats 8000000 in
theorem PySem.Challenge.cw_parallax_k04_what_is_a_watcher_holds : PySem.Challenge.rw_parallax_k04_what_is_a_watcher.Holds := by
  w_on; (o_law; k_head); (case hw => w_witness2)
  k_fill
  refine Mp.top_walk (k := Mp.K04.l28.length + 1) (x := "_law_script") (run := fun _ => Mp.K04.run) (n := 63) rfl (by decide) rfl ⟨rfl, by decide, by decide⟩ (fun w h Y => PySem.W.kIn_of Y) ?F (fun _ ns hns => Mp.K04.plain ns hns)
  case F =>
    intro w mg fa h KX G hmg
    refine' Mp.K04.ends ?hT KX G hmg ?D0 ?D1 ?D2 ?D3 ?D4 ?D5 ?D6 ?D7 ?D8 ?D9 ?D10 ?D11 ?D12 ?D13 ?D14 ?D15 ?D16 ?D17 ?D18 ?D19 ?D20 ?D21 ?D22 ?D23 ?D24 ?D25 ?D26 ?D27 ?Dl
    case hT => kernel_rfl
    case D0 => refine' Mp.DefAt.mk' ?a ?l ?c ?k Mp.K04.bd0; (case a => k_is); (case l => k_is); (case c => k_is); (case k => k_is)
    case D1 => refine' Mp.DefAt.mk' ?a ?l ?c ?k Mp.K04.bd1; (case a => k_is); (case l => k_is); (case c => k_is); (case k => k_is)
    case D2 => refine' Mp.DefAt.mk' ?a ?l ?c ?k Mp.K04.bd2; (case a => k_is); (case l => k_is); (case c => k_is); (case k => k_is)
    case D3 => refine' Mp.DefAt.mk' ?a ?l ?c ?k Mp.K04.bd3; (case a => k_is); (case l => k_is); (case c => k_is); (case k => k_is)
    case D4 => refine' Mp.DefAt.mk' ?a ?l ?c ?k Mp.K04.bd4; (case a => k_is); (case l => k_is); (case c => k_is); (case k => k_is)
    case D5 => refine' Mp.DefAt.mk' ?a ?l ?c ?k Mp.K04.bd5; (case a => k_is); (case l => k_is); (case c => k_is); (case k => k_is)
    case D6 => refine' Mp.DefAt.mk' ?a ?l ?c ?k Mp.K04.bd6; (case a => k_is); (case l => k_is); (case c => k_is); (case k => k_is)
    case D7 => refine' Mp.DefAt.mk' ?a ?l ?c ?k Mp.K04.bd7; (case a => k_is); (case l => k_is); (case c => k_is); (case k => k_is)
    case D8 => refine' Mp.DefAt.mk' ?a ?l ?c ?k Mp.K04.bd8; (case a => k_is); (case l => k_is); (case c => k_is); (case k => k_is)
    case D9 => refine' Mp.DefAt.mk' ?a ?l ?c ?k Mp.K04.bd9; (case a => k_is); (case l => k_is); (case c => k_is); (case k => k_is)
    case D10 => refine' Mp.DefAt.mk' ?a ?l ?c ?k Mp.K04.bd10; (case a => k_is); (case l => k_is); (case c => k_is); (case k => k_is)
    case D11 => refine' Mp.DefAt.mk' ?a ?l ?c ?k Mp.K04.bd11; (case a => k_is); (case l => k_is); (case c => k_is); (case k => k_is)
    case D12 => refine' Mp.DefAt.mk' ?a ?l ?c ?k Mp.K04.bd12; (case a => k_is); (case l => k_is); (case c => k_is); (case k => k_is)
    case D13 => refine' Mp.DefAt.mk' ?a ?l ?c ?k Mp.K04.bd13; (case a => k_is); (case l => k_is); (case c => k_is); (case k => k_is)
    case D14 => refine' Mp.DefAt.mk' ?a ?l ?c ?k Mp.K04.bd14; (case a => k_is); (case l => k_is); (case c => k_is); (case k => k_is)
    case D15 => refine' Mp.DefAt.mk' ?a ?l ?c ?k Mp.K04.bd15; (case a => k_is); (case l => k_is); (case c => k_is); (case k => k_is)
    case D16 => refine' Mp.DefAt.mk' ?a ?l ?c ?k Mp.K04.bd16; (case a => k_is); (case l => k_is); (case c => k_is); (case k => k_is)
    case D17 => refine' Mp.DefAt.mk' ?a ?l ?c ?k Mp.K04.bd17; (case a => k_is); (case l => k_is); (case c => k_is); (case k => k_is)
    case D18 => refine' Mp.DefAt.mk' ?a ?l ?c ?k Mp.K04.bd18; (case a => k_is); (case l => k_is); (case c => k_is); (case k => k_is)
    case D19 => refine' Mp.DefAt.mk' ?a ?l ?c ?k Mp.K04.bd19; (case a => k_is); (case l => k_is); (case c => k_is); (case k => k_is)
    case D20 => refine' Mp.DefAt.mk' ?a ?l ?c ?k Mp.K04.bd20; (case a => k_is); (case l => k_is); (case c => k_is); (case k => k_is)
    case D21 => refine' Mp.DefAt.mk' ?a ?l ?c ?k Mp.K04.bd21; (case a => k_is); (case l => k_is); (case c => k_is); (case k => k_is)
    case D22 => refine' Mp.DefAt.mk' ?a ?l ?c ?k Mp.K04.bd22; (case a => k_is); (case l => k_is); (case c => k_is); (case k => k_is)
    case D23 => refine' Mp.DefAt.mk' ?a ?l ?c ?k Mp.K04.bd23; (case a => k_is); (case l => k_is); (case c => k_is); (case k => k_is)
    case D24 => refine' Mp.DefAt.mk' ?a ?l ?c ?k Mp.K04.bd24; (case a => k_is); (case l => k_is); (case c => k_is); (case k => k_is)
    case D25 => refine' Mp.DefAt.mk' ?a ?l ?c ?k Mp.K04.bd25; (case a => k_is); (case l => k_is); (case c => k_is); (case k => k_is)
    case D26 => refine' Mp.DefAt.mk' ?a ?l ?c ?k Mp.K04.bd26; (case a => k_is); (case l => k_is); (case c => k_is); (case k => k_is)
    case D27 => refine' Mp.DefAt.mk' ?a ?l ?c ?k Mp.K04.bd27; (case a => k_is); (case l => k_is); (case c => k_is); (case k => k_is)
    case Dl => refine' Mp.DefAt.mk' ?a ?l ?c ?k Mp.K04.bdl; (case a => k_is); (case l => k_is); (case c => k_is); (case k => k_is)
