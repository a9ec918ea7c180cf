import PyProof.Rows.All
import Wide.All
import OpenK.AllK
import Wide.FinOn
import HandS.List
import HandS.ForMost
import HandS.Deep
import HandS.Wide
import HandS.TupAny
import HandS.TupMul
import HandS.Conv
import HandS.TupLe
import HandS.SetFor
import HandS.ExcCtx
import HandS.CallSlots
import KE.SortData
import KE.DataMinMax
import KE.DataAny
import HandS.IsInst
import HandS.Text
import HandS.Style
import HandS.Walk
import HandS.Iter
import HandS.Zip
import KE.GoesMore
import KE.GoesZip
import HandS.Comp
import HandS.Strs
import HandS.TupSets
import HandS.Hot
import HandS.HotCalls
import HandS.ExcIs
import HandS.Lambda
import HandS.Defaults
import HandS.Words
import HandS.Dict
import KE.KIndexOf
import HandS.HeadHook2
import HandS.HeadHook1
import HandS.HeadWalk
import HandS.Head2
import PyProof.ExcBaseAll.ValueError
import PySem.Challenge.RW_gapcarts_k14_whole_turned_rings
set_option Elab.async false
set_option maxHeartbeats 0
section
namespace Mi
/-- tuples by tuple(..) are known as clean ones; else tuples may be keys of a dict -/
def clM : Bool := true
end Mi
end
section
set_option Elab.async false
set_option linter.all false
set_option maxRecDepth 100000
set_option maxHeartbeats 4000000
/-! A small language of plain data: its values, its terms, what they come to. -/
namespace Mi
open PySem
/-- plain data; ref: a thing that is changed (a list of draws, a road), by its number; scr: a list that is only read; rw: a tuple that a method may be asked of -/
inductive D where
  | non | bl (b : Bool) | int (i : Int) | str (s : Str) | lst (xs : List D) | tup (xs : List D) | scr (xs : List D) | ref (n : Nat) | rw (xs : List D)
  deriving Inhabited
/-- a thing that is changed -/
inductive MO where
  | lst (xs : List D) | ins (fs : List (Str × D))
abbrev Mst := List MO
/-- what an expression comes to -/
inductive R (α : Type) where
  | ok (a : α) (M : Mst) | exc (c : Nat) (M : Mst) | stuck
def R.bind {α β : Type} (x : R α) (f : α → Mst → R β) : R β := match x with
  | .ok a M => f a M
  | .exc c M => .exc c M
  | .stuck => .stuck
def R.of {α : Type} (o : Option α) (M : Mst) : R α := match o with
  | some a => .ok a M
  | none => .stuck
/-- a name's place: nothing is known, a value, a list of one's own that may still grow, a dict of one's own -/
inductive Slot where
  | no | v (d : D) | own (xs : List D) | di (kvs : List (Int × D)) | dt (kvs : List (List Int × D)) | dz (kvs : List (Int × D))
  deriving Inhabited
abbrev En := List Slot
/-- what a statement comes to -/
inductive SR where
  | nx (ρ : En) (M : Mst) | rt (d : D) (M : Mst) | bk (ρ : En) (M : Mst) | ct (ρ : En) (M : Mst) | exc (c : Nat) (M : Mst) | stuck
def SR.seq (x : SR) (f : En → Mst → SR) : SR := match x with
  | .nx ρ M => f ρ M
  | r => r
def R.toS {α : Type} (x : R α) (f : α → Mst → SR) : SR := match x with
  | .ok a M => f a M
  | .exc c M => .exc c M
  | .stuck => .stuck
mutual
def D.py : D → Option PyData
  | .non => some .none | .bl b => some (.bool b) | .int i => some (.int i) | .str s => some (.str s)
  | .lst xs => (D.pys xs).map .list | .scr xs => (D.pys xs).map .list | .tup xs => (D.pys xs).map .tuple | .ref _ => none | .rw _ => none
def D.pys : List D → Option (List PyData)
  | [] => some []
  | x :: xs => (D.py x).bind fun d => (D.pys xs).map fun ds => d :: ds
end
def ints? : List D → Option (List Int)
  | [] => some []
  | .int i :: r => (ints? r).map fun is => i :: is
  | _ => none
def rows? : List D → Option (List (List Int))
  | [] => some []
  | .tup t :: r => (ints? t).bind fun is => (rows? r).map fun rs => is :: rs
  | _ => none
def bls? : List D → Option (List Bool)
  | [] => some []
  | .bl b :: r => (bls? r).map fun bs => b :: bs
  | _ => none
def strs? : List D → Option (List Str)
  | [] => some []
  | .str b :: r => (strs? r).map fun bs => b :: bs
  | _ => none
def row (is : List Int) : D := .tup (is.map .int)
inductive BO where
  | add | sub | mul | fdiv | mod | pow
  deriving DecidableEq
inductive CO where
  | eq | ne | lt | le | gt | ge | isn | nisn | inn | nin
  deriving DecidableEq
inductive B1 where
  | len | sum | min | max | sorted | list | tuple | all | any | int | str | sset | lset
  deriving DecidableEq
inductive B2 where
  | min | max
  deriving DecidableEq
inductive Ty where
  | int | bool | str | list | tuple
  deriving DecidableEq
/-! ### operations by values -/
def line : Nat := 16777216
def mulOk (i j : Int) : Bool := decide (-(2 ^ 64) < i ∧ i < 2 ^ 64) || decide (-(2 ^ 64) < j ∧ j < 2 ^ 64) || decide (i.natAbs.log2 + j.natAbs.log2 < 1000000)
def addD (x y : D) : Option D := match x, y with
  | .int i, .int j => some (.int (i + j))
  | .str i, .str j => if i.length + j.length ≤ line then some (.str (i ++ j)) else none
  | .lst xs, .lst ys => if xs.length + ys.length ≤ line then some (.lst (xs ++ ys)) else none
  | .tup xs, .tup ys => if xs.length + ys.length ≤ line then some (.tup (xs ++ ys)) else none
  | _, _ => none
def mulD (x y : D) : Option D := match x, y with
  | .int i, .int j => if mulOk i j then some (.int (i * j)) else none
  | .lst xs, .int k => if -(2 ^ 63) ≤ k ∧ k < 2 ^ 63 ∧ xs.length * k.toNat ≤ line then some (.lst (List.replicate k.toNat xs).flatten) else none
  | .tup xs, .int k => if k = 1 then some (.tup xs) else if xs ≠ [] ∧ 2 ≤ k ∧ k ≤ 1000 ∧ xs.length ≤ 1000 then some (.tup (List.replicate k.toNat xs).flatten) else none
  | _, _ => none
def arI (f : Int → Int → Option Int) (x y : D) : Option D := match x, y with
  | .int i, .int j => (f i j).map .int
  | _, _ => none
def binD : BO → D → D → Option D
  | .add => addD
  | .sub => arI fun i j => some (i - j)
  | .mul => mulD
  | .fdiv => arI fun i j => if 0 < j ∧ j.natAbs.log2 < 9000 then some (i / j) else none
  | .mod => arI fun i j => if 0 < j then some (i % j) else none
  | .pow => arI fun i j => if 0 ≤ j ∧ j ≤ 1000000 ∧ i.natAbs < 2 ^ 64 then some (i ^ j.toNat) else none
def eqD (x y : D) : Option Bool := match x, y with
  | .int i, .int j => some (decide (i = j))
  | .str i, .str j => some (decide (i = j))
  | .bl i, .bl j => some (decide (i = j))
  | x, y => (D.py x).bind fun p => (D.py y).bind fun q => if SeqAt.shaped p && SeqAt.shaped q then some (PyData.eqv p q) else none
def inD (x y : D) : Option Bool := match y with
  | .lst ys => (D.py x).bind fun p => (D.pys ys).bind fun qs => if SeqAt.shaped p && SeqAt.shaped (.list qs) then some (qs.any fun q => PyData.eqv q p) else none
  | .tup ys => match x, ints? ys with
    | .int i, some ns => some (decide (i ∈ ns))
    | _, _ => none
  | .str s => match x with
    | .str t => if t.cps.size = 1 then some (t.cps.toList.all fun c => decide (c ∈ s.cps.toList)) else none
    | _ => none
  | _ => none
def isD (x y : D) : Option Bool := match x, y with
  | .non, .non => some true
  | .ref _, .non => some false
  | .bl a, .bl b => some (decide (a = b))
  | _, .non => some false
  | _, _ => none
def ordI (f : Int → Int → Bool) (x y : D) : Option Bool := match x, y with
  | .int i, .int j => some (f i j)
  | _, _ => none
def ltD (x y : D) : Option Bool := match x, y with
  | .int i, .int j => some (decide (i < j))
  | .tup xs, .tup ys => (ints? xs).bind fun ns => (ints? ys).map fun ms => HT.lexLt ns ms
  | _, _ => none
def cmpD : CO → D → D → Option Bool
  | .eq => eqD
  | .ne => fun x y => (eqD x y).map (!·)
  | .lt => ltD
  | .le => ordI fun i j => decide (i ≤ j)
  | .gt => ordI fun i j => decide (j < i)
  | .ge => ordI fun i j => decide (j ≤ i)
  | .isn => isD
  | .nisn => fun x y => (isD x y).map (!·)
  | .inn => inD
  | .nin => fun x y => (inD x y).map (!·)
def subD (M : Mst) : D → D → Option D
  | .lst xs, .int i => L2.atI xs i
  | .tup xs, .int i => L2.atI xs i
  | .scr xs, .int i => L2.atI xs i
  | .str s, .int i => if s.length ≤ line then (L2.atI s.cps.toList i).map fun c => .str ⟨#[c]⟩ else none
  | .ref n, .int i => match M[n]? with
    | some (.lst xs) => L2.atI xs i
    | _ => none
  | _, _ => none

def cutL {α : Type} (xs : List α) (lo hi : Option Int) : List α := (xs.drop (HT.sIx xs.length 0 lo)).take (HT.sIx xs.length xs.length hi - HT.sIx xs.length 0 lo)
def slcD (x : D) (lo hi : Option Int) : Option D := match x with
  | .lst xs => some (.lst (cutL xs lo hi))
  | .tup xs => some (.tup (cutL xs lo hi))
  | .str s => if s.length ≤ line then some (.str ⟨(cutL s.cps.toList lo hi).toArray⟩) else none
  | _ => none
def leI (i j : Int) : Bool := decide (i ≤ j)
def leR (a b : List Int) : Bool := !HT.lexLt b a
def nubI : List Int → List Int
  | [] => []
  | x :: xs => if x ∈ nubI xs then nubI xs else x :: nubI xs
def nubR : List (List Int) → List (List Int)
  | [] => []
  | x :: xs => if x ∈ nubR xs then nubR xs else x :: nubR xs
def sortI (xs : List Int) : List Int := xs.mergeSort leI
def sortR (xs : List (List Int)) : List (List Int) := xs.mergeSort leR
/-- rows of one length, of numbers below 64: by their number -/
def codR : List Int → Int
  | [] => 0
  | d :: r => d * 64 ^ r.length + codR r
def leC (a b : List Int) : Bool := decide (codR a ≤ codR b)
def sortC (xs : List (List Int)) : List (List Int) := xs.mergeSort leC
def rowsOk (rs : List (List Int)) : Bool := match rs with
  | [] => false
  | r :: s => decide (1 ≤ r.length) && decide ((r :: s).length < 64) && (r :: s).all fun q => decide (q.length = r.length) && q.all fun z => decide (0 ≤ z) && decide (z < 64)
def ssetR (x : D) : Option D := match x with
  | .lst xs => (rows? xs).bind fun rs => if rowsOk rs then some (.lst ((sortC (nubR rs)).map Mi.row)) else none
  | _ => none
def items (x : D) : Option (List D) := match x with
  | .lst xs => some xs
  | .tup xs => some xs
  | _ => none
def sortD (xs : List D) : Option D := match ints? xs with
  | some ns => some (.lst ((sortI ns).map .int))
  | none => (rows? xs).bind fun rs => if rs.all (fun r => !r.isEmpty) then some (.lst ((sortR rs).map Mi.row)) else none
def minD (xs : List D) : Option D := match ints? xs with
  | some (n :: ns) => some (.int (ns.foldl min n))
  | some [] => none
  | none => match rows? xs with
    | some (r :: rs) => some (Mi.row (rs.foldl (fun a b => if HT.lexLt b a then b else a) r))
    | _ => none
def maxD (xs : List D) : Option D := match ints? xs with
  | some (n :: ns) => some (.int (ns.foldl max n))
  | some [] => none
  | none => match rows? xs with
    | some (r :: rs) => some (Mi.row (rs.foldl (fun a b => if HT.lexLt a b then b else a) r))
    | _ => none
def truthD : D → Option Bool
  | .bl b => some b
  | .int i => some (decide (i ≠ 0))
  | _ => none
def truths : List D → Option (List Bool)
  | [] => some []
  | x :: xs => (truthD x).bind fun b => (truths xs).map fun bs => b :: bs
def b1D (f : B1) (x : D) : Option D := match f with
  | .len => match x with
    | .lst xs => some (.int xs.length)
    | .tup xs => some (.int xs.length)
    | .scr xs => some (.int xs.length)
    | .str s => if s.length ≤ line then some (.int s.length) else none
    | _ => none
  | .sum => (items x).bind fun xs => (ints? xs).map fun ns => .int ns.sum
  | .min => (items x).bind minD
  | .max => (items x).bind maxD
  | .sorted => (items x).bind sortD
  | .list => (items x).map .lst
  | .tuple => (items x).map .tup
  | .all => (items x).bind fun xs => (truths xs).map fun bs => .bl (bs.all id)
  | .any => (items x).bind fun xs => (truths xs).map fun bs => .bl (bs.any id)
  | .int => match x with
    | .int i => some (.int i)
    | .bl b => some (.int (if b then 1 else 0))
    | .str s => (intText? s).bind fun n => if s.length ≤ 640 then some (.int n) else none
    | _ => none
  | .str => match x with
    | .int i => if i.natAbs.log2 < 1920 then some (.str (toString i)) else none
    | _ => none
  | .sset => (items x).bind fun xs => match ints? xs with
    | some ns => if ns.length < 64 then some (.lst ((sortI (nubI ns)).map .int)) else none
    | none => ssetR x
  | .lset => match x with
    | .lst xs => (ints? xs).bind fun ns => if ns.length < 64 ∧ ns.Nodup then some (.int ns.length) else none
    | _ => none
def b2D (f : B2) (x y : D) : Option D := match f, x, y with
  | .min, .int i, .int j => some (.int (if j < i then j else i))
  | .max, .int i, .int j => some (.int (if j > i then j else i))
  | _, _, _ => none
def isiD (t : Ty) : D → Option Bool
  | .non => some false
  | .bl _ => some (t = .int ∨ t = .bool)
  | .int _ => some (t = .int)
  | .str _ => some (t = .str)
  | .lst _ => some (t = .list)
  | .scr _ => some (t = .list)
  | .tup _ => some (t = .tuple)
  | .ref _ => none
  | .rw _ => none
def dnD : D → D
  | .rw xs => .tup xs
  | d => d
def rwOf? : D → Option (List D)
  | .rw xs => some xs
  | _ => none
/-- t.index(k) of a tuple of ints -/
def tixD (xs : List D) (y : D) : Option D := match ints? xs, y with
  | some ns, .int k => if k ∈ ns then some (.int (ns.idxOf k : Nat)) else none
  | _, _ => none
/-- a dict by its pairs -/
def atD {κ : Type} [DecidableEq κ] (kvs : List (κ × D)) (k : κ) : Option D := (kvs.find? fun kv => decide (kv.1 = k)).map (·.2)
def putD {κ : Type} [DecidableEq κ] (kvs : List (κ × D)) (k : κ) (d : D) : List (κ × D) :=
  if (kvs.any fun kv => decide (kv.1 = k)) = true then kvs.map (fun kv => if kv.1 = k then (kv.1, d) else kv) else kvs ++ [(k, d)]
def keyT? : D → Option (List Int)
  | .tup xs => ints? xs
  | _ => none
def slGet : Option Slot → D → Option (Option D)
  | some (.di kvs), .int j => some (atD kvs j)
  | some (.dz kvs), .int j => some (atD kvs j)
  | some (.dt kvs), y => if clM then none else (keyT? y).map fun ns => atD kvs ns
  | _, _ => none
def isDi : Option Slot → Bool
  | some (.di _) => true
  | some (.dz _) => true
  | some (.dt _) => true
  | _ => false
def slPut (s : Option Slot) (y d : D) : Option Slot := match s, y with
  | some (.di kvs), .int j => if kvs.length < line then some (.di (putD kvs j d)) else none
  | some (.dt kvs), y => if clM then none else (keyT? y).bind fun ns => if kvs.length < line then some (.dt (putD kvs ns d)) else none
  | _, _ => none
/-- name = {x: d} -/
def sgS (ρ : En) (i : Nat) (x d : D) (M : Mst) : SR := match x with
  | .int j => .nx (ρ.set i (.dz [(j, d)])) M
  | _ => .stuck
/-- l.index(x) -/
def indexD (x y : D) : Option D := match x with
  | .lst xs => (D.pys xs).bind fun ps => (D.py y).bind fun q => if SeqAt.shaped (.list ps) && SeqAt.shaped q then (ps.findIdx? fun p => PyData.eqv p q).map fun j => .int (j : Nat) else none
  | _ => none
def isLst : D → Bool
  | .lst _ => true
  | _ => false
def rngI (a b : Int) : List D := (List.range (b - a).toNat).map fun (i : Nat) => .int (a + i)
def rngOk (a b : Int) : Bool := decide (-(2 ^ 62) ≤ a ∧ a < 2 ^ 62 ∧ -(2 ^ 62) ≤ b ∧ b < 2 ^ 62 ∧ (b - a).toNat ≤ line)
/-- a, a + c, .. -/
def rngC (a b c : Int) : Option (List D) :=
  if c ≠ 0 ∧ c.natAbs < 1073741824 ∧ Builtin.Range.small a b c = true ∧ Builtin.Range.rangeSize a b c = ((Builtin.Range.rangeSize a b c).toNat : Int) then
    some ((List.range (Builtin.Range.rangeSize a b c).toNat).map fun (i : Nat) => .int (a + i * c)) else none
def signs (s : Str) : List D := s.cps.toList.map fun c => .str ⟨#[c]⟩
def strOf? : D → Option Str
  | .str s => some s
  | _ => none
/-! ### the terms -/
mutual
inductive ME where
  | non | bl (b : Bool) | int (i : Int) | str (s : Str)
  | var (i : Nat) | peek (i : Nat) | gl (x : Str) (d : D)
  | tup (es : MEs) | lst (es : MEs) | new (es : MEs)
  | bin (op : BO) (a b : ME) | neg (a : ME) | not (a : ME)
  | cmp (op : CO) (a b : ME) | chn (op op' : CO) (a b c : ME)
  | and (a b : ME) | or (a b : ME) | ite (c a b : ME)
  | sub (a i : ME) | slc (a : ME) (lo hi : MP) | rev (a : ME)
  | call (k : Nat) (es : MEs)
  | b1 (f : B1) (a : ME) | b2 (f : B2) (a b : ME) | isi (a : ME) (t : Ty) | index (a x : ME)
  | lrg (it : MI) | trg (it : MI)
  | comp (elt : ME) (t : List Nat) (it : MI) | compIf (elt : ME) (t : List Nat) (it : MI) (c : ME)
  | comp2 (elt : ME) (t : List Nat) (it : MI) (t2 : List Nat) (it2 : MI)
  | dget (i : Nat) (k : ME) | dgetd (i : Nat) (k d : ME)
  | dn (a : ME) | ctup (a : ME) | tix (a x : ME)
  | told (k : Nat) (e : ME)
inductive MEs where
  | nil | cons (e : ME) (es : MEs)
inductive MP where
  | no | some (e : ME)
inductive MI where
  | seq (e : ME) | rng (a : ME) | rng2 (a b : ME) | rng3 (a b c : ME) | zip (a b : ME) | enum (a : ME) | txt (a : ME) | enumT (a : ME) | keys (i : Nat)
end
inductive MS where
  | skip | ex (e : ME) | set (i : Nat) (e : ME) | own (i : Nat) (e : ME) | par (ts : List Nat) (ows : List Bool) (es : MEs) | asT (ts : List Nat) (e : ME)
  | app (i : Nat) (e : ME) | pop (i : Nat) | si (i : Nat) (k e : ME) | ri (a : ME) (k e : ME) | frz (i : Nat)
  | dnew (i : Nat) (t : Bool) | dset (i : Nat) (k e : ME) | mv (i j : Nat) | dsg (i : Nat) (k e : ME) | pard (b : Bool) (i j : Nat) (e : ME)
  | cond (c : ME) (a b : List MS) | loop (t : List Nat) (it : MI) (b : List MS) | whl (n : Nat) (c : ME) (b : List MS)
  | ret (e : ME) | retN | rai (c : Nat)
/-! ### what they come to -/
abbrev Fs := Nat → List D → Mst → R D
def compD {α β : Type} (f : α → Mst → R (Option β)) : List α → Mst → R (List β)
  | [], M => .ok [] M
  | x :: xs, M => (f x M).bind fun y M => (compD f xs M).bind fun ys M => .ok (match y with
    | some y => y :: ys
    | none => ys) M
/-- in a comprehension nothing may be refused -/
def R.quiet {α : Type} : R α → R α
  | .ok a M => .ok a M
  | _ => .stuck
def setAll : En → List Nat → List D → Option En
  | ρ, [], [] => some ρ
  | ρ, i :: is, d :: ds => setAll (ρ.set i (.v d)) is ds
  | _, _, _ => none
/-- the places forgotten -/
def wipE (ρ : En) : List Nat → En
  | [] => ρ
  | i :: is => (wipE ρ is).set i .no
def asg (ρ : En) (t : List Nat) (d : D) : Option En := match t with
  | [i] => some (ρ.set i (.v d))
  | t => match d with
    | .tup xs => if xs.length = t.length then setAll ρ t xs else none
    | _ => none
def zipD (xs ys : List D) : List D := (xs.zip ys).map fun p => .tup [p.1, p.2]
def enumD (xs : List D) : List D := (xs.zipIdx).map fun p => .tup [.int (p.2 : Nat), p.1]
def boolOf {α : Type} (d : D) (M : Mst) (f : Bool → R α) : R α := match d with
  | .bl b => f b
  | _ => .stuck
def intOf? : D → Option Int
  | .int i => some i
  | _ => none
def kinds : Nat → Str := fun k => (["BadRing", "BadRow", "BadNumber", "BadCell", "BadLooks", "BadShuts", "Nothing", "Full", "BadText"] : List Str).getD k ""
/-- a deed tried -/
def toldR : R D → R D
  | .ok d M => .ok d M
  | .exc c M => if c < 9 then .ok (.tup [.str "refused", .str (kinds c)]) M else .stuck
  | .stuck => .stuck
mutual
def ME.den (Φ : Fs) : ME → En → Mst → R D
  | .non, _, M => .ok .non M
  | .bl b, _, M => .ok (.bl b) M
  | .int i, _, M => .ok (.int i) M
  | .str s, _, M => .ok (.str s) M
  | .var i, ρ, M => (match ρ[i]? with
    | some (.v d) => .ok d M
    | _ => .stuck)
  | .peek i, ρ, M => (match ρ[i]? with
    | some (.own xs) => .ok (.lst xs) M
    | some (.v d) => .ok d M
    | _ => .stuck)
  | .gl _ d, _, M => .ok d M
  | .tup es, ρ, M => (es.den Φ ρ M).bind fun ds M => .ok (.tup ds) M
  | .lst es, ρ, M => (es.den Φ ρ M).bind fun ds M => .ok (.lst ds) M
  | .new es, ρ, M => (es.den Φ ρ M).bind fun ds M => .ok (.ref M.length) (M ++ [.lst ds])
  | .bin op a b, ρ, M => (a.den Φ ρ M).bind fun x M => (b.den Φ ρ M).bind fun y M => R.of (binD op x y) M
  | .neg a, ρ, M => (a.den Φ ρ M).bind fun x M => R.of ((intOf? x).map fun i => .int (-i)) M
  | .not a, ρ, M => (a.den Φ ρ M).bind fun x M => boolOf x M fun b => .ok (.bl (!b)) M
  | .cmp op a b, ρ, M => (a.den Φ ρ M).bind fun x M => (b.den Φ ρ M).bind fun y M => R.of ((cmpD op x y).map .bl) M
  | .chn op op' a b c, ρ, M => (a.den Φ ρ M).bind fun x M => (b.den Φ ρ M).bind fun y M => (R.of (cmpD op x y) M).bind fun k M => if k then (c.den Φ ρ M).bind fun z M => R.of ((cmpD op' y z).map .bl) M else .ok (.bl false) M
  | .and a b, ρ, M => (a.den Φ ρ M).bind fun x M => boolOf x M fun k => if k then b.den Φ ρ M else .ok (.bl false) M
  | .or a b, ρ, M => (a.den Φ ρ M).bind fun x M => boolOf x M fun k => if k then .ok (.bl true) M else b.den Φ ρ M
  | .ite c a b, ρ, M => (c.den Φ ρ M).bind fun x M => boolOf x M fun k => if k then a.den Φ ρ M else b.den Φ ρ M
  | .sub a i, ρ, M => (a.den Φ ρ M).bind fun x M => (i.den Φ ρ M).bind fun y M => R.of (subD M x y) M
  | .slc a lo hi, ρ, M => (a.den Φ ρ M).bind fun x M => (lo.den Φ ρ M).bind fun l M => (hi.den Φ ρ M).bind fun h M => R.of (slcD x l h) M
  | .rev a, ρ, M => (a.den Φ ρ M).bind fun x M => (match x with
    | .lst xs => .ok (.lst xs.reverse) M
    | .tup xs => .ok (.tup xs.reverse) M
    | _ => .stuck)
  | .call k es, ρ, M => (es.den Φ ρ M).bind fun ds M => Φ k ds M
  | .b1 f a, ρ, M => (a.den Φ ρ M).bind fun x M => R.of (b1D f x) M
  | .b2 f a b, ρ, M => (a.den Φ ρ M).bind fun x M => (b.den Φ ρ M).bind fun y M => R.of (b2D f x y) M
  | .isi a t, ρ, M => (a.den Φ ρ M).bind fun x M => R.of ((isiD t x).map .bl) M
  | .index a b, ρ, M => (a.den Φ ρ M).bind fun x M => if isLst x then (b.den Φ ρ M).bind fun y M => R.of (indexD x y) M else .stuck
  | .lrg it, ρ, M => (it.den Φ ρ M).bind fun xs M => .ok (.lst xs) M
  | .trg it, ρ, M => (it.den Φ ρ M).bind fun xs M => .ok (.tup xs) M
  | .comp elt t it, ρ, M => (it.den Φ ρ M).bind fun xs M => (compD (fun x M => match asg (wipE ρ t) t x with
    | some ρ => (elt.den Φ ρ M).quiet.bind fun y M => .ok (some y) M
    | none => .stuck) xs M).bind fun ys M => .ok (.lst ys) M
  | .compIf elt t it c, ρ, M => (it.den Φ ρ M).bind fun xs M => (compD (fun x M => match asg (wipE ρ t) t x with
    | some ρ => (c.den Φ ρ M).quiet.bind fun k M => boolOf k M fun k => if k then (elt.den Φ ρ M).quiet.bind fun y M => .ok (some y) M else .ok none M
    | none => .stuck) xs M).bind fun ys M => .ok (.lst ys) M
  | .comp2 elt t it t2 it2, ρ, M => (it.den Φ ρ M).bind fun xs M => (compD (fun x M => match asg (wipE ρ (t ++ t2)) t x with
    | some ρ => (it2.den Φ ρ M).quiet.bind fun ys M => (compD (fun y M => match asg (wipE ρ t2) t2 y with
      | some ρ => (elt.den Φ ρ M).quiet.bind fun z M => .ok (some z) M
      | none => .stuck) ys M).bind fun zs M => .ok (some zs) M
    | none => .stuck) xs M).bind fun zss M => if zss.flatten.length ≤ line then .ok (.lst zss.flatten) M else .stuck
  | .dget i k, ρ, M => if isDi ρ[i]? = false then .stuck else (k.den Φ ρ M).bind fun y M => R.of ((slGet ρ[i]? y).bind id) M
  | .dgetd i k d, ρ, M => if isDi ρ[i]? = false then .stuck else (k.den Φ ρ M).bind fun y M => (d.den Φ ρ M).bind fun z M => R.of ((slGet ρ[i]? y).map fun o => o.getD z) M
  | .dn a, ρ, M => (a.den Φ ρ M).bind fun x M => .ok (dnD x) M
  | .ctup a, ρ, M => (a.den Φ ρ M).bind fun x M => (match x with
    | .lst xs => if clM then .ok (.rw xs) M else .stuck
    | _ => .stuck)
  | .tix a b, ρ, M => (a.den Φ ρ M).bind fun x M => (match x with
    | .rw xs => (b.den Φ ρ M).bind fun y M => R.of (tixD xs y) M
    | _ => .stuck)
  | .told _ e, ρ, M => toldR (e.den Φ ρ M)
def MEs.den (Φ : Fs) : MEs → En → Mst → R (List D)
  | .nil, _, M => .ok [] M
  | .cons e es, ρ, M => (e.den Φ ρ M).bind fun d M => (es.den Φ ρ M).bind fun ds M => .ok (d :: ds) M
def MP.den (Φ : Fs) : MP → En → Mst → R (Option Int)
  | .no, _, M => .ok none M
  | .some e, ρ, M => (e.den Φ ρ M).bind fun x M => R.of ((intOf? x).map some) M
def MI.den (Φ : Fs) : MI → En → Mst → R (List D)
  | .seq e, ρ, M => (e.den Φ ρ M).bind fun d M => R.of (items d) M
  | .rng a, ρ, M => (a.den Φ ρ M).bind fun x M => R.of ((intOf? x).bind fun b => if rngOk 0 b then some (rngI 0 b) else none) M
  | .rng2 a b, ρ, M => (a.den Φ ρ M).bind fun x M => (b.den Φ ρ M).bind fun y M => R.of ((intOf? x).bind fun a => (intOf? y).bind fun b => if rngOk a b then some (rngI a b) else none) M
  | .rng3 a b c, ρ, M => (a.den Φ ρ M).bind fun x M => (b.den Φ ρ M).bind fun y M => (c.den Φ ρ M).bind fun z M => R.of ((intOf? x).bind fun a => (intOf? y).bind fun b => (intOf? z).bind fun c => (rngC a b c).bind fun xs => if xs.length ≤ line then some xs else none) M
  | .zip a b, ρ, M => (a.den Φ ρ M).bind fun x M => (b.den Φ ρ M).bind fun y M => R.of ((items x).bind fun xs => (items y).map fun ys => zipD xs ys) M
  | .enum a, ρ, M => (a.den Φ ρ M).bind fun x M => R.of (match x with
    | .lst xs => some (enumD xs)
    | _ => none) M
  | .keys i, ρ, M => (match ρ[i]? with
    | some (.dz kvs) => .ok (kvs.map fun p => .int p.1) M
    | _ => .stuck)
  | .txt a, ρ, M => (a.den Φ ρ M).bind fun x M => R.of ((strOf? x).bind fun s => if s.length ≤ line then some (signs s) else none) M
  | .enumT a, ρ, M => (a.den Φ ρ M).bind fun x M => R.of ((strOf? x).bind fun s => if s.length ≤ line then some (enumD (signs s)) else none) M
end
def forD (f : D → En → Mst → SR) : List D → En → Mst → SR
  | [], ρ, M => .nx ρ M
  | x :: xs, ρ, M => match f x ρ M with
    | .nx ρ M => forD f xs ρ M
    | .ct ρ M => forD f xs ρ M
    | .bk ρ M => .nx ρ M
    | r => r
def whileD (c : En → Mst → R D) (f : En → Mst → SR) : Nat → En → Mst → SR
  | 0, _, _ => .stuck
  | n + 1, ρ, M => (c ρ M).toS fun x M => match x with
    | .bl false => .nx ρ M
    | .bl true => (match f ρ M with
      | .nx ρ M => whileD c f n ρ M
      | .ct ρ M => whileD c f n ρ M
      | .bk ρ M => .nx ρ M
      | r => r)
    | _ => .stuck
def parS : En → List Nat → List Bool → List D → Option En
  | ρ, [], [], [] => some ρ
  | ρ, i :: is, o :: os, d :: ds => (match o, d with
    | true, .lst xs => parS (ρ.set i (.own xs)) is os ds
    | true, _ => none
    | false, d => parS (ρ.set i (.v d)) is os ds)
  | _, _, _, _ => none
mutual
def MS.den (Φ : Fs) : MS → En → Mst → SR
  | .skip, ρ, M => .nx ρ M
  | .ex e, ρ, M => (e.den Φ ρ M).toS fun _ M => .nx ρ M
  | .set i e, ρ, M => (e.den Φ ρ M).toS fun d M => .nx (ρ.set i (.v d)) M
  | .own i e, ρ, M => (e.den Φ ρ M).toS fun d M => (match d with
    | .lst xs => .nx (ρ.set i (.own xs)) M
    | _ => .stuck)
  | .par ts os es, ρ, M => (es.den Φ ρ M).toS fun ds M => (match parS ρ ts os ds with
    | some ρ => .nx ρ M
    | none => .stuck)
  | .asT ts e, ρ, M => (e.den Φ ρ M).toS fun d M => (match asg ρ ts d with
    | some ρ => .nx ρ M
    | none => .stuck)
  | .app i e, ρ, M => (match ρ[i]? with
    | some (.own xs) => (e.den Φ ρ M).toS fun d M => if xs.length < line then .nx (ρ.set i (.own (xs ++ [d]))) M else .stuck
    | _ => .stuck)
  | .pop i, ρ, M => (match ρ[i]? with
    | some (.own xs) => if xs = [] then .stuck else .nx (ρ.set i (.own xs.dropLast)) M
    | _ => .stuck)
  | .si i k e, ρ, M => (match ρ[i]? with
    | some (.own xs) => (e.den Φ ρ M).toS fun d M => (k.den Φ ρ M).toS fun x M => (match x with
      | .int j => (match L2.ixN xs.length j with
        | some n => .nx (ρ.set i (.own (xs.set n d))) M
        | none => .stuck)
      | _ => .stuck)
    | _ => .stuck)
  | .ri a k e, ρ, M => (e.den Φ ρ M).toS fun d M => (a.den Φ ρ M).toS fun o M => (k.den Φ ρ M).toS fun x M => (match o, x with
    | .ref r, .int j => (match M[r]? with
      | some (.lst xs) => (match L2.ixN xs.length j with
        | some n => .nx ρ (M.set r (.lst (xs.set n d)))
        | none => .stuck)
      | _ => .stuck)
    | _, _ => .stuck)
  | .frz i, ρ, M => (match ρ[i]? with
    | some (.own xs) => .nx (ρ.set i (.v (.lst xs))) M
    | some (.v _) => .nx ρ M
    | _ => .stuck)
  | .dnew i t, ρ, M => .nx (ρ.set i (if t then .dt [] else .di [])) M
  | .dset i k e, ρ, M => (e.den Φ ρ M).toS fun d M => if isDi ρ[i]? = false then .stuck else (k.den Φ ρ M).toS fun x M => (match slPut ρ[i]? x d with
    | some s => .nx (ρ.set i s) M
    | none => .stuck)
  | .mv i j, ρ, M => (match ρ[j]? with
    | some (.di kvs) => .nx ((ρ.set j .no).set i (.dz kvs)) M
    | _ => .stuck)
  | .dsg i k e, ρ, M => (k.den Φ ρ M).toS fun x M => (e.den Φ ρ M).toS fun d M => sgS ρ i x d M
  | .pard _ i j e, ρ, M => (e.den Φ ρ M).toS fun d M => .nx ((ρ.set i (.v d)).set j (.dt [])) M
  | .cond c a b, ρ, M => (c.den Φ ρ M).toS fun x M => (match x with
    | .bl true => MS.dens Φ a ρ M
    | .bl false => MS.dens Φ b ρ M
    | _ => .stuck)
  | .loop t it b, ρ, M => (it.den Φ ρ M).toS fun xs M => forD (fun x ρ M => match asg ρ t x with
    | some ρ => MS.dens Φ b ρ M
    | none => .stuck) xs ρ M
  | .whl n c b, ρ, M => whileD (c.den Φ) (fun ρ M => MS.dens Φ b ρ M) n ρ M
  | .ret e, ρ, M => (e.den Φ ρ M).toS fun d M => .rt d M
  | .retN, _, M => .rt .non M
  | .rai c, _, M => .exc c M
def MS.dens (Φ : Fs) : List MS → En → Mst → SR
  | [], ρ, M => .nx ρ M
  | s :: ss, ρ, M => (s.den Φ ρ M).seq fun ρ M => MS.dens Φ ss ρ M
end
/-- a def: its places, its body -/
def runDef (Φ : Fs) (n : Nat) (b : List MS) (ds : List D) (M : Mst) : R D := match MS.dens Φ b (ds.map .v ++ List.replicate (n - ds.length) .no) M with
  | .nx _ M => .ok .non M
  | .rt d M => .ok d M
  | .exc c M => .exc c M
  | _ => .stuck
/-! ### a table of defs -/
structure KF where
  x : Str
  k : Nat
  ar : Nat
  f : List D → Mst → R D
def tbl (l : List KF) : Fs := fun k => match l.find? (fun e => e.k == k) with
  | some e => e.f
  | none => fun _ _ => .stuck
end Mi
end
section
set_option Elab.async false
set_option linter.all false
set_option maxRecDepth 100000
set_option maxHeartbeats 4000000
namespace Mi
open PySem PySem.Spec PyProof.Rows L2
/-! ### what stands for what -/
/-- a frozen tuple, its object known or not -/
def TupF (F : Hp) (a : Addr) (vs : List V) : Prop := F a = some (.tup vs) ∨ clM = true ∧ ∃ (its : Array Value) (n : Nat), F a = some (.frz { cls := .type "tuple", data := .seq its n } (.tup vs))
theorem TupF.mono {F F' : Hp} {a : Addr} {vs : List V} (h : TupF F a vs) (s : Same F F') : TupF F' a vs := by
  rcases h with h | ⟨cl, its, n, h⟩
  · exact .inl (s _ _ h)
  · exact .inr ⟨cl, its, n, s _ _ h⟩
theorem TupF.sq {K : PySem.W.Frag} {F : Hp} {a : Addr} {vs : List V} (h : TupF F a vs) : SqT K F a vs := by
  rcases h with h | ⟨_, its, n, h⟩
  · exact .inl (.inl h)
  · exact .inl (.inr ⟨_, h⟩)
mutual
def Rep (F : Hp) (α : List Addr) (K : PySem.W.Frag) : D → V → Prop
  | .non, v => v = .non
  | .bl b, v => v = .bl b
  | .int i, v => v = .int i
  | .str s, v => v = .str s
  | .lst ds, v => ∃ a vs, v = .ref a ∧ F a = some (.lst vs) ∧ Reps F α K ds vs ∧ ds.length ≤ sizeLine
  | .tup ds, v => ∃ a vs, v = .ref a ∧ TupF F a vs ∧ Reps F α K ds vs ∧ ds.length ≤ sizeLine
  | .scr ds, v => ∃ a vs, v = .ref a ∧ SqL K F a vs ∧ Reps F α K ds vs ∧ ds.length ≤ sizeLine
  | .ref n, v => ∃ a, v = .ref a ∧ α[n]? = some a
  | .rw ds, v => ∃ a vs, v = .ref a ∧ (clM = true ∧ ∃ (its : Array Value) (n : Nat), F a = some (.frz { cls := .type "tuple", data := .seq its n } (.tup vs))) ∧ Reps F α K ds vs ∧ ds.length ≤ sizeLine
def Reps (F : Hp) (α : List Addr) (K : PySem.W.Frag) : List D → List V → Prop
  | [], vs => vs = []
  | d :: ds, vs => ∃ v r, vs = v :: r ∧ Rep F α K d v ∧ Reps F α K ds r
end
section
variable {F F' : Hp} {α α' : List Addr} {K : PySem.W.Frag}
mutual
theorem Rep.mono (hf : Same F F') (ha : ∃ β, α' = α ++ β) : ∀ {d : D} {v : V}, Rep F α K d v → Rep F' α' K d v
  | .non, v, h => h
  | .bl _, v, h => h
  | .int _, v, h => h
  | .str _, v, h => h
  | .lst ds, v, h => by
    obtain ⟨a, vs, e, h1, h2, h3⟩ := h
    exact ⟨a, vs, e, hf _ _ h1, Reps.mono hf ha h2, h3⟩
  | .tup ds, v, h => by
    obtain ⟨a, vs, e, h1, h2, h3⟩ := h
    exact ⟨a, vs, e, h1.mono hf, Reps.mono hf ha h2, h3⟩
  | .scr ds, v, h => by
    obtain ⟨a, vs, e, h1, h2, h3⟩ := h
    exact ⟨a, vs, e, Same.seq hf h1, Reps.mono hf ha h2, h3⟩
  | .ref n, v, h => by
    obtain ⟨a, e, h1⟩ := h
    obtain ⟨β, rfl⟩ := ha
    refine ⟨a, e, ?_⟩
    rw [List.getElem?_append_left (List.getElem?_eq_some_iff.mp h1).1]
    exact h1
  | .rw ds, v, h => by
    obtain ⟨a, vs, e, ⟨cl, its, n, h1⟩, h2, h3⟩ := h
    exact ⟨a, vs, e, ⟨cl, its, n, hf _ _ h1⟩, Reps.mono hf ha h2, h3⟩
theorem Reps.mono (hf : Same F F') (ha : ∃ β, α' = α ++ β) : ∀ {ds : List D} {vs : List V}, Reps F α K ds vs → Reps F' α' K ds vs
  | [], vs, h => h
  | d :: ds, vs, h => by
    obtain ⟨v, r, e, h1, h2⟩ := h
    exact ⟨v, r, e, Rep.mono hf ha h1, Reps.mono hf ha h2⟩
end
theorem Reps.length : ∀ {ds : List D} {vs : List V}, Reps F α K ds vs → vs.length = ds.length
  | [], vs, h => by
    have h : vs = [] := h
    rw [h]
    rfl
  | d :: ds, vs, h => by
    obtain ⟨v, r, e, h1, h2⟩ := h
    rw [e, List.length_cons, List.length_cons, Reps.length h2]
theorem Reps.get : ∀ {ds : List D} {vs : List V} {i : Nat} {d : D}, Reps F α K ds vs → ds[i]? = some d → ∃ v, vs[i]? = some v ∧ Rep F α K d v
  | [], _, _, _, _, e => by simp at e
  | d :: ds, vs, 0, d', h, e => by
    obtain ⟨v, r, rfl, h1, h2⟩ := h
    simp at e
    subst e
    exact ⟨v, rfl, h1⟩
  | d :: ds, vs, i + 1, d', h, e => by
    obtain ⟨v, r, rfl, h1, h2⟩ := h
    obtain ⟨w, e1, e2⟩ := Reps.get (i := i) h2 (by simpa using e)
    exact ⟨w, by simpa using e1, e2⟩
theorem Reps.get' : ∀ {ds : List D} {vs : List V} {i : Nat} {v : V}, Reps F α K ds vs → vs[i]? = some v → ∃ d, ds[i]? = some d ∧ Rep F α K d v := fun {ds vs i v} h e => by
  have hl := h.length
  have hi := (List.getElem?_eq_some_iff.mp e).1
  obtain ⟨w, e1, e2⟩ := h.get (i := i) (d := ds[i]'(by omega)) (List.getElem?_eq_getElem (by omega))
  rw [e] at e1
  cases e1
  exact ⟨_, List.getElem?_eq_getElem (by omega), e2⟩
theorem Reps.append : ∀ {ds es : List D} {vs ws : List V}, Reps F α K ds vs → Reps F α K es ws → Reps F α K (ds ++ es) (vs ++ ws)
  | [], es, vs, ws, h, g => by
    have h : vs = [] := h
    subst h
    exact g
  | d :: ds, es, vs, ws, h, g => by
    obtain ⟨v, r, rfl, h1, h2⟩ := h
    exact ⟨v, r ++ ws, rfl, h1, Reps.append h2 g⟩
theorem Reps.take : ∀ (n : Nat) {ds : List D} {vs : List V}, Reps F α K ds vs → Reps F α K (ds.take n) (vs.take n)
  | 0, ds, vs, h => by simp [Reps]
  | n + 1, [], vs, h => by
    have h : vs = [] := h
    subst h
    simp [Reps]
  | n + 1, d :: ds, vs, h => by
    obtain ⟨v, r, rfl, h1, h2⟩ := h
    exact ⟨v, r.take n, rfl, h1, Reps.take n h2⟩
theorem Reps.drop : ∀ (n : Nat) {ds : List D} {vs : List V}, Reps F α K ds vs → Reps F α K (ds.drop n) (vs.drop n)
  | 0, ds, vs, h => h
  | n + 1, [], vs, h => by
    have h : vs = [] := h
    subst h
    simp [Reps]
  | n + 1, d :: ds, vs, h => by
    obtain ⟨v, r, rfl, h1, h2⟩ := h
    exact Reps.drop n h2
theorem Reps.set {d : D} {v : V} (hd : Rep F α K d v) : ∀ (i : Nat) {ds : List D} {vs : List V}, Reps F α K ds vs → Reps F α K (ds.set i d) (vs.set i v)
  | i, [], vs, h => by
    have h : vs = [] := h
    subst h
    simp [Reps]
  | 0, e :: ds, vs, h => by
    obtain ⟨w, r, rfl, h1, h2⟩ := h
    exact ⟨v, r, rfl, hd, h2⟩
  | i + 1, e :: ds, vs, h => by
    obtain ⟨w, r, rfl, h1, h2⟩ := h
    exact ⟨w, r.set i v, rfl, h1, Reps.set hd i h2⟩
theorem Reps.one {d : D} {v : V} (h : Rep F α K d v) : Reps F α K [d] [v] := ⟨v, [], rfl, h, rfl⟩
theorem Reps.nil : Reps F α K [] [] := rfl
theorem Reps.cons {d : D} {v : V} {ds : List D} {vs : List V} (h : Rep F α K d v) (h2 : Reps F α K ds vs) : Reps F α K (d :: ds) (v :: vs) := ⟨v, vs, rfl, h, h2⟩
theorem Reps.dropLast {ds : List D} {vs : List V} (h : Reps F α K ds vs) : Reps F α K ds.dropLast vs.dropLast := by
  rw [List.dropLast_eq_take, List.dropLast_eq_take, h.length]
  exact h.take _
theorem Reps.reverse : ∀ {ds : List D} {vs : List V}, Reps F α K ds vs → Reps F α K ds.reverse vs.reverse
  | [], vs, h => by
    have h : vs = [] := h
    subst h
    exact rfl
  | d :: ds, vs, h => by
    obtain ⟨v, r, rfl, h1, h2⟩ := h
    rw [List.reverse_cons, List.reverse_cons]
    exact (Reps.reverse h2).append (.one h1)
end
/-! ### data for == -/
mutual
theorem dp_of {F H : Hp} {α : List Addr} {K : PySem.W.Frag} (hs : Same F H) : ∀ {d : D} {v : V} {p : PyData}, Rep F α K d v → D.py d = some p → Dp K H v p
  | .non, v, p, h, e => by
    cases h
    cases e
    exact .non
  | .bl _, v, p, h, e => by
    cases h
    cases e
    exact .bl _
  | .int _, v, p, h, e => by
    cases h
    cases e
    exact .int _
  | .str _, v, p, h, e => by
    cases h
    cases e
    exact .str _
  | .lst ds, v, p, h, e => by
    obtain ⟨a, vs, rfl, h1, h2, h3⟩ := h
    rw [D.py, Option.map_eq_some_iff] at e
    obtain ⟨q, e1, rfl⟩ := e
    exact .lst (SqL.of (hs _ _ h1)) (dps_of hs h2 e1)
  | .scr ds, v, p, h, e => by
    obtain ⟨a, vs, rfl, h1, h2, h3⟩ := h
    rw [D.py, Option.map_eq_some_iff] at e
    obtain ⟨q, e1, rfl⟩ := e
    exact .lst (Same.seq hs h1) (dps_of hs h2 e1)
  | .tup ds, v, p, h, e => by
    obtain ⟨a, vs, rfl, h1, h2, h3⟩ := h
    rw [D.py, Option.map_eq_some_iff] at e
    obtain ⟨q, e1, rfl⟩ := e
    exact .tup (h1.mono hs).sq (dps_of hs h2 e1)
  | .ref _, v, p, h, e => by
    simp [D.py] at e
  | .rw _, v, p, h, e => by
    simp [D.py] at e
theorem dps_of {F H : Hp} {α : List Addr} {K : PySem.W.Frag} (hs : Same F H) : ∀ {ds : List D} {vs : List V} {ps : List PyData}, Reps F α K ds vs → D.pys ds = some ps → DpAll K H vs ps
  | [], vs, ps, h, e => by
    have h : vs = [] := h
    subst h
    cases e
    exact .nil
  | d :: ds, vs, ps, h, e => by
    obtain ⟨v, r, rfl, h1, h2⟩ := h
    rw [D.pys, Option.bind_eq_some_iff] at e
    obtain ⟨q, e1, e⟩ := e
    rw [Option.map_eq_some_iff] at e
    obtain ⟨qs, e2, rfl⟩ := e
    exact .cons (dp_of hs h1 e1) (dps_of hs h2 e2)
end
/-! ### the heap: what is frozen (F), what is changed (at the addresses α), tables of code objects -/
/-- the addresses of what is fixed: the written part, tables of code objects, the classes of refusals -/
structure Wd where
  K : PySem.W.Frag
  T : List (Addr × Str)
  tab : List (Addr × Str) → Hp → Prop
  ca : Nat → Addr
def isTbl : HO → Prop
  | .tbl _ => True
  | _ => False
/-- nothing but perhaps a table stands there -/
def Fre (H : Hp) (a : Addr) : Prop := ∀ o, H a = some o → isTbl o
def isFro : HO → Prop
  | .lst _ => True
  | .tup _ => True
  | .frz _ (.lst _) => True
  | .frz _ (.tup _) => True
  | .frz _ (.dK _) => True
  | _ => False
/-- a changed thing as it stands -/
def ObR (W : Wd) (F : Hp) (α : List Addr) (H : Hp) (a : Addr) : MO → Prop
  | .lst ds => ∃ vs, H a = some (.lst vs) ∧ Reps F α W.K ds vs ∧ ds.length ≤ sizeLine
  | .ins fs => ∃ C dx gs, H a = some (.ins C dx gs) ∧ gs.map (·.1) = fs.map (·.1) ∧ Reps F α W.K (fs.map (·.2)) (gs.map (·.2))
structure CM (W : Wd) (F : Hp) (α : List Addr) (M : Mst) (H : Hp) : Prop where
  sub : Same F H
  fro : ∀ a o, F a = some o → isFro o
  len : α.length = M.length
  nd : α.Nodup
  al : ∀ (n : Nat) (a : Addr) (o : MO), α[n]? = some a → M[n]? = some o → ObR W F α H a o ∧ F a = none
  tb : W.tab W.T H
/-- from one state to a later one; O: what is one's own and may be changed -/
structure Grow (O : Addr → Prop) (F : Hp) (α : List Addr) (H : Hp) (F' : Hp) (α' : List Addr) (H' : Hp) : Prop where
  ff : Same F F'
  aa : ∃ β, α' = α ++ β
  kp : ∀ a o, H a = some o → a ∉ α → ¬ O a → ¬ isTbl o → H' a = some o
  th : ∀ a o, H a = some o → ¬ isTbl o → ∃ o', H' a = some o' ∧ ¬ isTbl o'
  nf : ∀ a o, F' a = some o → F a = some o ∨ Fre H a ∨ O a
  na : ∀ a, a ∈ α' → a ∈ α ∨ Fre H a
abbrev O0 : Addr → Prop := fun _ => False
section
variable {W : Wd} {F F' F2 H H' H2 : Hp} {α α' α2 : List Addr} {O O' O2 : Addr → Prop} {M M' : Mst}
theorem Grow.refl : Grow O F α H F α H := ⟨Same.refl _, ⟨[], by simp⟩, fun _ _ h _ _ _ => h, fun _ o h n => ⟨o, h, n⟩, fun _ _ h => .inl h, fun _ h => .inl h⟩
theorem Grow.fre (g : Grow O F α H F' α' H') {a : Addr} (h : Fre H' a) : Fre H a := fun o e => by
  by_cases q : isTbl o
  · exact q
  · obtain ⟨o', e', n'⟩ := g.th a o e q
    exact absurd (h o' e') n'
theorem Grow.trans (g : Grow O F α H F' α' H') (g2 : Grow O' F' α' H' F2 α2 H2) (ho : ∀ a, O' a → O a ∨ Fre H a) : Grow O F α H F2 α2 H2 where
  ff := g.ff.trans g2.ff
  aa := by
    obtain ⟨β, rfl⟩ := g.aa
    obtain ⟨γ, rfl⟩ := g2.aa
    exact ⟨β ++ γ, by rw [List.append_assoc]⟩
  kp := fun a o h n no nt => g2.kp a o (g.kp a o h n no nt) (fun z => (g.na a z).elim n fun f => nt (f o h)) (fun z => (ho a z).elim no fun f => nt (f o h)) nt
  th := fun a o h n => by
    obtain ⟨o1, h1, n1⟩ := g.th a o h n
    exact g2.th a o1 h1 n1
  nf := fun a o h => by
    rcases g2.nf a o h with h | h | h
    · exact g.nf a o h
    · exact .inr (.inl (g.fre h))
    · exact .inr ((ho a h).symm)
  na := fun a h => by
    rcases g2.na a h with h | h
    · exact g.na a h
    · exact .inr (g.fre h)
theorem Grow.trans0 (g : Grow O F α H F' α' H') (g2 : Grow O0 F' α' H' F2 α2 H2) : Grow O F α H F2 α2 H2 := g.trans g2 fun _ h => h.elim
theorem Grow.weak (g : Grow O F α H F' α' H') (ho : ∀ a, O a → O' a) : Grow O' F α H F' α' H' := ⟨g.ff, g.aa, fun a o h n no nt => g.kp a o h n (fun z => no (ho a z)) nt, g.th, fun a o h => (g.nf a o h).imp id fun z => z.imp id (ho a), g.na⟩
theorem Grow.rep (g : Grow O F α H F' α' H') {K : PySem.W.Frag} {d : D} {v : V} (h : Rep F α K d v) : Rep F' α' K d v := h.mono g.ff g.aa
theorem Grow.reps (g : Grow O F α H F' α' H') {K : PySem.W.Frag} {d : List D} {v : List V} (h : Reps F α K d v) : Reps F' α' K d v := h.mono g.ff g.aa
/-- what a world of ours says of its tables: they stay where nothing but the tables changes -/
def Wd.Good (W : Wd) : Prop := ∀ H H' : Hp, W.tab W.T H → (∀ b o, H b = some o → (isTbl o ∨ ∃ φ, o = .ext φ) → H' b = some o) → W.tab W.T H'
theorem tbl_upd {p : Addr} {o : HO} (h : ∀ u, H p = some u → ¬ isTbl u ∧ ∀ φ, u ≠ .ext φ) : ∀ b u, H b = some u → (isTbl u ∨ ∃ φ, u = .ext φ) → upd H p o b = some u := fun b u e t => by
  rw [upd_ne fun z => ?_]
  · exact e
  · subst z
    obtain ⟨h1, h2⟩ := h u e
    rcases t with t | ⟨φ, t⟩
    · exact h1 t
    · exact h2 φ t
theorem ObR.mono (W : Wd) {a : Addr} {o : MO} (hf : Same F F') (ha : ∃ β, α' = α ++ β) (hH : H a = H' a) (h : ObR W F α H a o) : ObR W F' α' H' a o := by
  cases o with
  | lst ds =>
    obtain ⟨vs, h1, h2, h3⟩ := h
    exact ⟨vs, hH ▸ h1, h2.mono hf ha, h3⟩
  | ins fs =>
    obtain ⟨C, dx, gs, h1, h2, h3⟩ := h
    exact ⟨C, dx, gs, hH ▸ h1, h2, h3.mono hf ha⟩
theorem ObR.there {W : Wd} {a : Addr} {o : MO} (h : ObR W F α H a o) : ∃ u, H a = some u ∧ ((∃ vs, u = .lst vs) ∨ ∃ C dx gs, u = .ins C dx gs) := by
  cases o with
  | lst ds =>
    obtain ⟨vs, h1, _⟩ := h
    exact ⟨_, h1, .inl ⟨_, rfl⟩⟩
  | ins fs =>
    obtain ⟨C, dx, gs, h1, _⟩ := h
    exact ⟨_, h1, .inr ⟨_, _, _, rfl⟩⟩
theorem CM.at_ (c : CM W F α M H) {a : Addr} (h : a ∈ α) : ∃ (n : Nat) (o : MO), α[n]? = some a ∧ M[n]? = some o ∧ ObR W F α H a o ∧ F a = none := by
  obtain ⟨n, hn, e⟩ := List.getElem_of_mem h
  have hn' : n < M.length := c.len ▸ hn
  have e1 : α[n]? = some a := by rw [List.getElem?_eq_getElem hn, e]
  have e2 : M[n]? = some M[n] := List.getElem?_eq_getElem hn'
  obtain ⟨q1, q2⟩ := c.al n a _ e1 e2
  exact ⟨n, _, e1, e2, q1, q2⟩
/-- a new frozen object -/
theorem CM.new (W : Wd) (hW : W.Good) (c : CM W F α M H) {p : Addr} {o : HO} (hp : H p = none) (ho : isFro o) : CM W (upd F p o) α M (upd H p o) ∧ Grow O0 F α H (upd F p o) α (upd H p o) := by
  have fp : F p = none := by
    cases q : F p with
    | none => rfl
    | some u =>
      have := c.sub p u q
      rw [hp] at this
      cases this
  have sF : Same F (upd F p o) := fun b u e => by
    rw [upd_ne (ne_of_none e fp)]
    exact e
  refine ⟨⟨fun b u e => ?_, fun b u e => ?_, c.len, c.nd, fun n a m e1 e2 => ?_, ?_⟩, ⟨sF, ⟨[], by simp⟩, fun a u h _ _ _ => ?_, fun a u h n => ⟨u, ?_, n⟩, fun a u h => ?_, fun a h => .inl h⟩⟩
  · by_cases hb : b = p
    · subst hb
      rw [upd_same] at e ⊢
      exact e
    · rw [upd_ne hb] at e ⊢
      exact c.sub b u e
  · by_cases hb : b = p
    · subst hb
      rw [upd_same] at e
      cases e
      exact ho
    · rw [upd_ne hb] at e
      exact c.fro b u e
  · obtain ⟨q1, q2⟩ := c.al n a m e1 e2
    have hap : a ≠ p := by
      obtain ⟨u, h1, _⟩ := q1.there
      exact ne_of_none h1 hp
    exact ⟨q1.mono W sF ⟨[], by simp⟩ (upd_ne hap).symm, by rw [upd_ne hap]; exact q2⟩
  · exact hW _ _ c.tb (tbl_upd fun u e => by rw [hp] at e; cases e)
  · rw [upd_ne (ne_of_none h hp)]
    exact h
  · rw [upd_ne (ne_of_none h hp)]
    exact h
  · by_cases hb : a = p
    · subst hb
      exact .inr (.inl fun o e => by rw [hp] at e; cases e)
    · rw [upd_ne hb] at h
      exact .inl h
end
/-! ### the frame's places -/
def Slot.mine : Slot → Bool
  | .own _ => true
  | .di _ => true
  | .dt _ => true
  | _ => false
def SlR (W : Wd) (F : Hp) (α : List Addr) (H : Hp) : Slot → Option (Option V) → Prop
  | .no, _ => True
  | .v d, o => ∃ v, o = some (some v) ∧ Rep F α W.K d v
  | .own ds, o => ∃ p vs, o = some (some (.ref p)) ∧ H p = some (.lst vs) ∧ Reps F α W.K ds vs ∧ ds.length ≤ sizeLine ∧ F p = none ∧ p ∉ α
  | .di ks, o => ∃ p kvs, o = some (some (.ref p)) ∧ H p = some (.dK kvs) ∧ kvs.map (·.1) = ks.map (fun k => Sum.inl k.1) ∧ Reps F α W.K (ks.map (·.2)) (kvs.map (·.2)) ∧ ks.length ≤ sizeLine ∧ F p = none ∧ p ∉ α
  | .dt ks, o => ∃ p kvs, o = some (some (.ref p)) ∧ H p = some (.dT kvs) ∧ kvs.map (·.1) = ks.map (fun k => k.1.map Sum.inl) ∧ Reps F α W.K (ks.map (·.2)) (kvs.map (·.2)) ∧ ks.length ≤ sizeLine ∧ F p = none ∧ p ∉ α
  | .dz ks, o => ∃ p kvs u, o = some (some (.ref p)) ∧ F p = some (.frz u (.dK kvs)) ∧ kvs.map (·.1) = ks.map (fun k => Sum.inl k.1) ∧ Reps F α W.K (ks.map (·.2)) (kvs.map (·.2)) ∧ ks.length ≤ sizeLine
def OwnAt (σ : L2.St) (ρ : En) (i : Nat) (p : Addr) : Prop := σ[i]? = some (some (.ref p)) ∧ ∃ s, ρ[i]? = some s ∧ s.mine = true
def OwnA (σ : L2.St) (ρ : En) (p : Addr) : Prop := ∃ i, OwnAt σ ρ i p
structure SL (W : Wd) (F : Hp) (α : List Addr) (H : Hp) (ρ : En) (σ : L2.St) : Prop where
  len : ρ.length = σ.length
  at_ : ∀ (i : Nat) (s : Slot), ρ[i]? = some s → SlR W F α H s σ[i]?
  dis : ∀ (i j : Nat) (p : Addr), OwnAt σ ρ i p → OwnAt σ ρ j p → i = j
section
variable {W : Wd} {F F' F2 H H' H2 : Hp} {α α' α2 : List Addr} {O O' O2 : Addr → Prop} {M M' : Mst} {ρ : En} {σ : L2.St} {s : Slot} {o : Option (Option V)}
theorem SlR.grow (g : Grow O F α H F' α' H') (ho : ∀ p, o = some (some (.ref p)) → s.mine = true → ¬ O p) (h : SlR W F α H s o) : SlR W F' α' H' s o := by
  have key : ∀ p u, o = some (some (.ref p)) → s.mine = true → H p = some u → ¬ isTbl u → F p = none → p ∉ α → H' p = some u ∧ F' p = none ∧ p ∉ α' := fun p u e m hp nt hf hα => by
    have no := ho p e m
    have nf : ¬ Fre H p := fun f => nt (f u hp)
    refine ⟨g.kp p u hp hα no nt, ?_, fun z => (g.na p z).elim hα nf⟩
    cases q : F' p with
    | none => rfl
    | some x =>
      rcases g.nf p x q with z | z | z
      · rw [hf] at z
        cases z
      · exact absurd z nf
      · exact absurd z no
  cases s with
  | no => exact h
  | v d =>
    obtain ⟨v, e, r⟩ := h
    exact ⟨v, e, g.rep r⟩
  | own ds =>
    obtain ⟨p, vs, e, h1, h2, h3, h4, h5⟩ := h
    obtain ⟨k1, k2, k3⟩ := key p _ e rfl h1 (fun z => z) h4 h5
    exact ⟨p, vs, e, k1, g.reps h2, h3, k2, k3⟩
  | di ks =>
    obtain ⟨p, vs, e, h1, h2, h3, h6, h4, h5⟩ := h
    obtain ⟨k1, k2, k3⟩ := key p _ e rfl h1 (fun z => z) h4 h5
    exact ⟨p, vs, e, k1, h2, g.reps h3, h6, k2, k3⟩
  | dt ks =>
    obtain ⟨p, vs, e, h1, h2, h3, h6, h4, h5⟩ := h
    obtain ⟨k1, k2, k3⟩ := key p _ e rfl h1 (fun z => z) h4 h5
    exact ⟨p, vs, e, k1, h2, g.reps h3, h6, k2, k3⟩
  | dz ks =>
    obtain ⟨p, vs, u, e, h1, h2, h3, h6⟩ := h
    exact ⟨p, vs, u, e, g.ff _ _ h1, h2, g.reps h3, h6⟩
theorem SL.grow (h : SL W F α H ρ σ) (g : Grow O0 F α H F' α' H') : SL W F' α' H' ρ σ :=
  ⟨h.len, fun i s e => (h.at_ i s e).grow g fun _ _ _ z => z, h.dis⟩
theorem SL.val {i : Nat} {d : D} (h : SL W F α H ρ σ) (e : ρ[i]? = some (.v d)) : ∃ v, σ[i]? = some (some v) ∧ Rep F α W.K d v := h.at_ i _ e
/-- what is one's own is tracked, no table -/
theorem SL.own_there (h : SL W F α H ρ σ) {p : Addr} (q : OwnA σ ρ p) : (∃ u, H p = some u ∧ ¬ isTbl u ∧ ∀ φ, u ≠ .ext φ) ∧ F p = none ∧ p ∉ α := by
  obtain ⟨i, e, s, e2, m⟩ := q
  have := h.at_ i s e2
  cases s with
  | no => cases m
  | v d => cases m
  | dz d => cases m
  | own ds =>
    obtain ⟨p', vs, e', h1, _, _, h4, h5⟩ := this
    rw [e] at e'
    cases e'
    exact ⟨⟨_, h1, fun z => z, fun _ z => by cases z⟩, h4, h5⟩
  | di ds =>
    obtain ⟨p', vs, e', h1, _, _, _, h4, h5⟩ := this
    rw [e] at e'
    cases e'
    exact ⟨⟨_, h1, fun z => z, fun _ z => by cases z⟩, h4, h5⟩
  | dt ds =>
    obtain ⟨p', vs, e', h1, _, _, _, h4, h5⟩ := this
    rw [e] at e'
    cases e'
    exact ⟨⟨_, h1, fun z => z, fun _ z => by cases z⟩, h4, h5⟩
theorem OwnA.set {i : Nat} {v : V} {s : Slot} {p : Addr} (h : OwnA (σ.set i (some v)) (ρ.set i s) p) : OwnA σ ρ p ∨ (s.mine = true ∧ v = .ref p) := by
  obtain ⟨j, e1, t, e2, m⟩ := h
  by_cases hj : i = j
  · subst hj
    by_cases hl : i < σ.length
    · rw [List.getElem?_set_self hl] at e1
      have e1 := Option.some.inj (Option.some.inj e1)
      by_cases hl2 : i < ρ.length
      · rw [List.getElem?_set_self hl2] at e2
        cases e2
        exact .inr ⟨m, e1⟩
      · rw [List.getElem?_eq_none (by simpa using hl2)] at e2
        cases e2
    · rw [List.getElem?_eq_none (by simpa using hl)] at e1
      cases e1
  · rw [List.getElem?_set_ne hj] at e1 e2
    exact .inl ⟨j, e1, t, e2, m⟩
/-- a name gets a value that is not one's own -/
theorem SL.setV {i : Nat} {v : V} {d : D} (h : SL W F α H ρ σ) (r : Rep F α W.K d v) : SL W F α H (ρ.set i (.v d)) (σ.set i (some v)) where
  len := by simpa using h.len
  at_ := fun j s e => by
    by_cases hj : i = j
    · subst hj
      by_cases hl : i < ρ.length
      · rw [List.getElem?_set_self hl] at e
        cases e
        rw [List.getElem?_set_self (h.len ▸ hl)]
        exact ⟨v, rfl, r⟩
      · rw [List.getElem?_eq_none (by simpa using hl)] at e
        cases e
    · rw [List.getElem?_set_ne hj] at e ⊢
      exact h.at_ j s e
  dis := fun j k p h1 h2 => by
    have key : ∀ j, OwnAt (σ.set i (some v)) (ρ.set i (.v d)) j p → OwnAt σ ρ j p := fun j ⟨e1, t, e2, m⟩ => by
      by_cases hj : i = j
      · subst hj
        by_cases hl : i < ρ.length
        · rw [List.getElem?_set_self hl] at e2
          cases e2
          cases m
        · rw [List.getElem?_eq_none (by simpa using hl)] at e2
          cases e2
      · rw [List.getElem?_set_ne hj] at e1 e2
        exact ⟨e1, t, e2, m⟩
    exact h.dis j k p (key j h1) (key k h2)
end
end Mi
end
section
set_option Elab.async false
set_option autoImplicit false
set_option linter.all false
set_option maxRecDepth 100000
set_option maxHeartbeats 4000000
namespace Mi
open PySem PySem.Spec PyProof.Rows L2
/-! ### readings -/
/-- v stands for d; b: it may be a list of one's own -/
def RepB (W : Wd) (b : Bool) (F : Hp) (α : List Addr) (H : Hp) (d : D) (v : V) : Prop :=
  Rep F α W.K d v ∨ (b = true ∧ ∃ ds p vs, d = .lst ds ∧ v = .ref p ∧ H p = some (.lst vs) ∧ Reps F α W.K ds vs ∧ ds.length ≤ sizeLine ∧ F p = none ∧ p ∉ α)
def PQ (W : Wd) (b : Bool) (F : Hp) (α : List Addr) (H : Hp) (Q : VK) (d : D) (M' : Mst) : Prop :=
  ∀ F' α' H' v, Grow O0 F α H F' α' H' → CM W F' α' M' H' → RepB W b F' α' H' d v → Q v H'
def PX (W : Wd) (X : WX) (F : Hp) (α : List Addr) (σ : L2.St) (H : Hp) (c : Nat) (M' : Mst) : Prop :=
  ∀ F' α' H', Grow O0 F α H F' α' H' → CM W F' α' M' H' → X (.ref (W.ca c)) none σ H'
def post (W : Wd) (X : WX) (b : Bool) (F : Hp) (α : List Addr) (σ : L2.St) (H : Hp) (Q : VK) : R D → Prop
  | .ok d M' => PQ W b F α H Q d M'
  | .exc c M' => PX W X F α σ H c M'
  | .stuck => False
def tE (W : Wd) (X : WX) (b : Bool) (t : En → Mst → R D) : TE := fun σ H Q => ∃ F α ρ M, CM W F α M H ∧ SL W F α H ρ σ ∧ post W X b F α σ H Q (t ρ M)
section
variable {W : Wd} {XW : WX} {b : Bool} {F F' F2 H H' H2 : Hp} {α α' α2 : List Addr} {M M' : Mst} {ρ : En} {σ : L2.St} {Q : VK} {d : D} {v : V} {X : Cx}
theorem RepB.of (h : Rep F α W.K d v) : RepB W b F α H d v := .inl h
theorem RepB.grow (g : Grow O0 F α H F' α' H') (h : RepB W b F α H d v) : RepB W b F' α' H' d v := by
  rcases h with h | ⟨hb, ds, p, vs, e1, e2, h1, h2, h3, h4, h5⟩
  · exact .inl (g.rep h)
  · have s0 : SlR W F α H (.own ds) (some (some (.ref p))) := ⟨p, vs, rfl, h1, h2, h3, h4, h5⟩
    obtain ⟨p', vs', e', q1, q2, q3, q4, q5⟩ := s0.grow g (fun _ _ _ z => z)
    cases e'
    exact .inr ⟨hb, ds, p, vs', e1, e2, q1, q2, q3, q4, q5⟩
theorem RepB.up (h : RepB W false F α H d v) : RepB W b F α H d v := by
  rcases h with h | ⟨hb, _⟩
  · exact .inl h
  · cases hb
theorem RepB.strict (h : RepB W false F α H d v) : Rep F α W.K d v := by
  rcases h with h | ⟨hb, _⟩
  · exact h
  · cases hb
/-- a list, frozen or one's own -/
theorem RepB.list {ds : List D} (c : CM W F α M H) (h : RepB W b F α H (.lst ds) v) : ∃ p vs, v = .ref p ∧ H p = some (.lst vs) ∧ Reps F α W.K ds vs ∧ ds.length ≤ sizeLine := by
  rcases h with ⟨p, vs, e, h1, h2, h3⟩ | ⟨_, ds', p, vs, e, e2, h1, h2, h3, _⟩
  · exact ⟨p, vs, e, c.sub _ _ h1, h2, h3⟩
  · cases e
    exact ⟨p, vs, e2, h1, h2, h3⟩
theorem RepB.tuple {ds : List D} (c : CM W F α M H) (h : RepB W b F α H (.tup ds) v) : ∃ p vs, v = .ref p ∧ TupF F p vs ∧ SqT W.K H p vs ∧ Reps F α W.K ds vs ∧ ds.length ≤ sizeLine := by
  rcases h with ⟨p, vs, e, h1, h2, h3⟩ | ⟨_, ds', p, vs, e, _⟩
  · exact ⟨p, vs, e, h1, (h1.mono c.sub).sq, h2, h3⟩
  · cases e
theorem RepB.int {i : Int} (h : RepB W b F α H (.int i) v) : v = .int i := by
  rcases h with h | ⟨_, ds', p, vs, e, _⟩
  · exact h
  · cases e
theorem RepB.str {i : Str} (h : RepB W b F α H (.str i) v) : v = .str i := by
  rcases h with h | ⟨_, ds', p, vs, e, _⟩
  · exact h
  · cases e
theorem RepB.bl {i : Bool} (h : RepB W b F α H (.bl i) v) : v = .bl i := by
  rcases h with h | ⟨_, ds', p, vs, e, _⟩
  · exact h
  · cases e
theorem RepB.non (h : RepB W b F α H .non v) : v = .non := by
  rcases h with h | ⟨_, ds', p, vs, e, _⟩
  · exact h
  · cases e
theorem RepB.ref {n : Nat} (h : RepB W b F α H (.ref n) v) : ∃ a, v = .ref a ∧ α[n]? = some a := by
  rcases h with h | ⟨_, ds', p, vs, e, _⟩
  · exact h
  · cases e
theorem RepB.scr {ds : List D} (c : CM W F α M H) (h : RepB W b F α H (.scr ds) v) : ∃ p vs, v = .ref p ∧ SqL W.K H p vs ∧ Reps F α W.K ds vs ∧ ds.length ≤ sizeLine := by
  rcases h with ⟨p, vs, e, h1, h2, h3⟩ | ⟨_, ds', p, vs, e, _⟩
  · exact ⟨p, vs, e, Same.seq c.sub h1, h2, h3⟩
  · cases e
theorem RepB.dp {p : PyData} (c : CM W F α M H) (h : RepB W b F α H d v) (e : D.py d = some p) : Dp W.K H v p := by
  rcases h with h | ⟨_, ds, q, vs, rfl, rfl, h1, h2, h3, _⟩
  · exact dp_of c.sub h e
  · rw [D.py, Option.map_eq_some_iff] at e
    obtain ⟨q, e1, rfl⟩ := e
    exact .lst (SqL.of h1) (dps_of c.sub h2 e1)
theorem PQ.grow {M' : Mst} (g : Grow O0 F α H F' α' H') (h : PQ W b F α H Q d M') : PQ W b F' α' H' Q d M' := fun F2 α2 H2 v g2 c r => h F2 α2 H2 v (g.trans0 g2) c r
theorem post.grow {r : R D} (g : Grow O0 F α H F' α' H') (h : post W XW b F α σ H Q r) : post W XW b F' α' σ H' Q r := by
  cases r with
  | ok d M => exact PQ.grow g h
  | exc c M => exact fun F2 α2 H2 g2 c => h F2 α2 H2 (g.trans0 g2) c
  | stuck => exact h
/-- what is handed on at once -/
theorem PQ.here {M' : Mst} (c : CM W F α M' H) (h : PQ W b F α H Q d M') (r : RepB W b F α H d v) : Q v H := h F α H v Grow.refl c r
/-- a new list, a new tuple is handed on -/
theorem PQ.lst (hW : W.Good) {ds : List D} {vs : List V} {p : Addr} (c : CM W F α M' H) (h : PQ W b F α H Q (.lst ds) M') (r : Reps F α W.K ds vs) (hl : ds.length ≤ sizeLine) (hp : H p = none) : Q (.ref p) (upd H p (.lst vs)) := by
  obtain ⟨c1, g1⟩ := c.new W hW hp (o := .lst vs) trivial
  exact h _ _ _ _ g1 c1 (.inl ⟨p, vs, rfl, upd_same, g1.reps r, hl⟩)
theorem PQ.tup (hW : W.Good) {ds : List D} {vs : List V} {p : Addr} (c : CM W F α M' H) (h : PQ W b F α H Q (.tup ds) M') (r : Reps F α W.K ds vs) (hl : ds.length ≤ sizeLine) (hp : H p = none) : Q (.ref p) (upd H p (.tup vs)) := by
  obtain ⟨c1, g1⟩ := c.new W hW hp (o := .tup vs) trivial
  exact h _ _ _ _ g1 c1 (.inl ⟨p, vs, rfl, .inl upd_same, g1.reps r, hl⟩)
theorem bindE {ta : En → Mst → R D} {f : D → Mst → R D} {K : V → Hp → Prop} {b' : Bool} (c : CM W F α M H) (s : SL W F α H ρ σ) (h : post W XW b F α σ H Q ((ta ρ M).bind f))
    (k : ∀ F1 α1 H1 M1 x v, Grow O0 F α H F1 α1 H1 → CM W F1 α1 M1 H1 → SL W F1 α1 H1 ρ σ → RepB W b' F1 α1 H1 x v → post W XW b F1 α1 σ H1 Q (f x M1) → K v H1) : tE W XW b' ta σ H K := by
  refine ⟨F, α, ρ, M, c, s, ?_⟩
  cases e : ta ρ M with
  | ok x M1 =>
    rw [e] at h
    exact fun F1 α1 H1 v g c1 r => k F1 α1 H1 M1 x v g c1 (s.grow g) r (h.grow g)
  | exc n M1 =>
    rw [e] at h
    exact h
  | stuck =>
    rw [e] at h
    exact h
theorem PE.imp {e : Expr} {t t' : TE} (h : PE X e t) (k : ∀ σ H Q, t' σ H Q → t σ H Q) : PE X e t' := ⟨fun pins s σ H Q I q => h.run pins s σ H Q I (k σ H Q q)⟩
theorem tE.up {t : En → Mst → R D} {σ : L2.St} {H : Hp} {Q : VK} (h : tE W XW b t σ H Q) : tE W XW false t σ H Q := by
  obtain ⟨F, α, ρ, M, c, s, h⟩ := h
  refine ⟨F, α, ρ, M, c, s, ?_⟩
  cases e : t ρ M with
  | ok d M1 =>
    rw [e] at h
    exact fun F' α' H' v g c r => h F' α' H' v g c r.up
  | exc n M1 =>
    rw [e] at h
    exact h
  | stuck =>
    rw [e] at h
    exact h
/-- what may be one's own is what is asked of anything -/
theorem PE.up {e : Expr} {t : En → Mst → R D} (h : PE X e (tE W XW false t)) : PE X e (tE W XW b t) := PE.imp h fun _ _ _ => tE.up
/-! ### constants, names -/
theorem m_cst {e : Expr} {d : D} {v : V} (h : PE X e (tC v)) (hr : ∀ F α, Rep F α W.K d v) : PE X e (tE W XW false fun _ M => .ok d M) := PE.imp h fun σ H Q ⟨F, α, ρ, M, c, s, h⟩ => PQ.here c h (.inl (hr F α))
theorem m_var {e : Expr} {i : Nat} (h : PE X e (tVar i)) : PE X e (tE W XW false fun ρ M => match ρ[i]? with
    | some (.v d) => .ok d M
    | _ => .stuck) := PE.imp h fun σ H Q ⟨F, α, ρ, M, c, s, h⟩ => by
  cases e : ρ[i]? with
  | none =>
    simp only [e] at h
    exact h.elim
  | some sl =>
    cases sl with
    | v d =>
      simp only [e] at h
      obtain ⟨v, e1, r⟩ := s.val e
      exact ⟨v, e1, PQ.here c h (.inl r)⟩
    | no =>
      simp only [e] at h
      exact h.elim
    | own _ =>
      simp only [e] at h
      exact h.elim
    | di _ =>
      simp only [e] at h
      exact h.elim
    | dt _ =>
      simp only [e] at h
      exact h.elim
    | dz _ =>
      simp only [e] at h
      exact h.elim
theorem m_peek {e : Expr} {i : Nat} (h : PE X e (tVar i)) : PE X e (tE W XW true fun ρ M => match ρ[i]? with
    | some (.own xs) => .ok (.lst xs) M
    | some (.v d) => .ok d M
    | _ => .stuck) := PE.imp h fun σ H Q ⟨F, α, ρ, M, c, s, h⟩ => by
  cases e : ρ[i]? with
  | none =>
    simp only [e] at h
    exact h.elim
  | some sl =>
    cases sl with
    | own ds =>
      simp only [e] at h
      obtain ⟨p, vs, e1, h1, h2, h3, h4, h5⟩ := s.at_ i _ e
      exact ⟨.ref p, e1, PQ.here c h (.inr ⟨rfl, ds, p, vs, rfl, rfl, h1, h2, h3, h4, h5⟩)⟩
    | v d =>
      simp only [e] at h
      obtain ⟨v, e1, r⟩ := s.val e
      exact ⟨v, e1, PQ.here c h (.inl r)⟩
    | no =>
      simp only [e] at h
      exact h.elim
    | di _ =>
      simp only [e] at h
      exact h.elim
    | dt _ =>
      simp only [e] at h
      exact h.elim
    | dz _ =>
      simp only [e] at h
      exact h.elim
/-! ### two-place operations -/
def Sound2 (W : Wd) (r : R2) (f : Mst → D → D → Option D) : Prop := ∀ F α M H x y v u Q d, CM W F α M H → RepB W true F α H x v → RepB W true F α H y u → f M x y = some d → PQ W false F α H Q d M → r v u H Q
def t2 (ta tb : En → Mst → R D) (f : Mst → D → D → Option D) : En → Mst → R D := fun ρ M => (ta ρ M).bind fun x M => (tb ρ M).bind fun y M => R.of (f M x y) M
theorem post_of {o : Option D} (h : post W XW b F α σ H Q (R.of o M)) : ∃ d, o = some d ∧ PQ W b F α H Q d M := by
  cases o with
  | none => exact h.elim
  | some d => exact ⟨d, rfl, h⟩
theorem tE_2 {r : R2} {f : Mst → D → D → Option D} {ta tb : En → Mst → R D} (hr : Sound2 W r f) : ∀ σ H Q, tE W XW false (t2 ta tb f) σ H Q → tOp r (tE W XW true ta) (tE W XW true tb) σ H Q := fun σ H Q ⟨F, α, ρ, M, c, s, h⟩ => by
  refine bindE c s h fun F1 α1 H1 M1 x v g1 c1 s1 r1 h1 => ?_
  refine bindE c1 s1 h1 fun F2 α2 H2 M2 y u g2 c2 s2 r2 h2 => ?_
  obtain ⟨d, e, q⟩ := post_of h2
  exact hr F2 α2 M2 H2 x y v u Q d c2 (r1.grow g2) r2 e q
theorem m_op {op : Operator} {r : R2} {f : Mst → D → D → Option D} {a e : Expr} {pos : Pos} {ta tb : En → Mst → R D} (ho : OpR X (binaryOp op) r) (hr : Sound2 W r f) (ha : PE X a (tE W XW true ta)) (hb : PE X e (tE W XW true tb)) :
    PE X (.BinOp a op e pos) (tE W XW false (t2 ta tb f)) := PE.imp (pe_op ho ha hb) (tE_2 hr)
theorem m_cmp {op : CmpOp} {r : R2} {f : Mst → D → D → Option D} {a e : Expr} {pos : Pos} {ta tb : En → Mst → R D} (ho : OpR X (compareOp op) r) (hr : Sound2 W r f) (ha : PE X a (tE W XW true ta)) (hb : PE X e (tE W XW true tb)) (hm : behindInMarks op e = false) :
    PE X (.Compare a [op] [e] pos) (tE W XW false (t2 ta tb f)) := PE.imp (pe_cmpR ho ha hb hm) (tE_2 hr)
theorem Sound2.or {r r' : R2} {f f' : Mst → D → D → Option D} (h : Sound2 W r f) (h' : Sound2 W r' f') {f2 : Mst → D → D → Option D} (hf : ∀ M x y d, f2 M x y = some d → f M x y = some d ∨ f' M x y = some d) : Sound2 W (fun x y H Q => r x y H Q ∨ r' x y H Q) f2 :=
  fun F α M H x y v u Q d c r1 r2 e q => (hf M x y d e).imp (fun e => h F α M H x y v u Q d c r1 r2 e q) (fun e => h' F α M H x y v u Q d c r1 r2 e q)
end
end Mi
end
section
set_option Elab.async false
set_option autoImplicit false
set_option linter.all false
set_option maxRecDepth 100000
set_option maxHeartbeats 4000000
namespace Mi
open PySem PySem.Spec PyProof.Rows L2
section
variable {W : Wd} {XW : L2.WX} {b : Bool} {F F' F2 H H' H2 : Hp} {α α' α2 : List Addr} {M M' : Mst} {ρ : En} {σ : L2.St} {Q : VK} {d : D} {v : V} {X : Cx}
theorem PQ.int {i : Int} (c : CM W F α M H) (q : PQ W b F α H Q (.int i) M) : Q (.int i) H := PQ.here c q (.inl rfl)
theorem PQ.bl {i : Bool} (c : CM W F α M H) (q : PQ W b F α H Q (.bl i) M) : Q (.bl i) H := PQ.here c q (.inl rfl)
theorem PQ.str {i : Str} (c : CM W F α M H) (q : PQ W b F α H Q (.str i) M) : Q (.str i) H := PQ.here c q (.inl rfl)
theorem line_eq : line = sizeLine := by decide
/-! ### + -/
def rAdd (K : PySem.W.Frag) : R2 := fun x y H Q => rI0 (fun i j => .int (i + j)) x y H Q ∨ (∃ i j, x = .str i ∧ y = .str j ∧ i.length + j.length ≤ sizeLine ∧ Q (.str (i ++ j)) H) ∨ rCat x y H Q ∨ rCatA K x y H Q
theorem o_add : OpR X (binaryOp .Add) (rAdd X.K) := OpR.or op_add (OpR.or op_add_str (OpR.or op_cat op_catA))
theorem s_add (hW : W.Good) : Sound2 W (rAdd W.K) (fun _ => binD .add) := fun F α M H x y v u Q d c r1 r2 e q => by
  replace e : addD x y = some d := e
  unfold addD at e
  split at e
  · rename_i i j
    cases e
    cases r1.int
    cases r2.int
    exact .inl ⟨i, j, rfl, rfl, q.int c⟩
  · rename_i i j
    split at e
    · rename_i hl
      cases e
      cases r1.str
      cases r2.str
      exact .inr (.inl ⟨i, j, rfl, rfl, line_eq ▸ hl, q.str c⟩)
    · cases e
  · rename_i xs ys
    split at e
    · rename_i hl
      cases e
      obtain ⟨p, vs, rfl, h1, h2, h3⟩ := r1.list c
      obtain ⟨p', vs', rfl, h1', h2', h3'⟩ := r2.list c
      refine .inr (.inr (.inl ⟨p, p', vs, vs', rfl, rfl, h1, h1', ?_, fun a ha => ?_⟩))
      · rw [h2.length, h2'.length]
        exact line_eq ▸ hl
      · exact PQ.lst hW c q (h2.append h2') (by rw [List.length_append]; exact line_eq ▸ hl) ha
    · cases e
  · rename_i xs ys
    split at e
    · rename_i hl
      cases e
      obtain ⟨p, vs, rfl, f1, h1, h2, h3⟩ := r1.tuple c
      obtain ⟨p', vs', rfl, f1', h1', h2', h3'⟩ := r2.tuple c
      refine .inr (.inr (.inr ⟨p, p', vs, vs', rfl, rfl, h1, h1', ?_, fun e => ?_, fun _ e => ?_, fun _ _ a ha => ?_⟩))
      · rw [h2.length, h2'.length]
        exact line_eq ▸ hl
      · have : xs = [] := List.length_eq_zero_iff.mp (by rw [← h2.length, e]; rfl)
        subst this
        exact PQ.here c q (.inl ⟨p', vs', rfl, f1', h2', h3'⟩)
      · have : ys = [] := List.length_eq_zero_iff.mp (by rw [← h2'.length, e]; rfl)
        subst this
        rw [List.append_nil] at q
        exact PQ.here c q (.inl ⟨p, vs, rfl, f1, h2, h3⟩)
      · exact PQ.tup hW c q (h2.append h2') (by rw [List.length_append]; exact line_eq ▸ hl) ha
    · cases e
  · cases e
/-! ### the other operators on ints -/
theorem s_arI {C : Int → Int → Prop} [h : ∀ i j, Decidable (C i j)] {g : Int → Int → Int} : Sound2 W (rI C fun i j => .int (g i j)) (fun _ => arI fun i j => if C i j then some (g i j) else none) := fun F α M H x y v u Q d c r1 r2 e q => by
  replace e : arI (fun i j => if C i j then some (g i j) else none) x y = some d := e
  unfold arI at e
  split at e
  · rename_i i j
    dsimp only at e
    by_cases hc : C i j
    · rw [if_pos hc] at e
      cases e
      cases r1.int
      cases r2.int
      exact ⟨i, j, rfl, rfl, hc, q.int c⟩
    · rw [if_neg hc] at e
      cases e
  · cases e
theorem s_sub : Sound2 W (rI0 fun i j => .int (i - j)) (fun _ => binD .sub) := fun F α M H x y v u Q d c r1 r2 e q => by
  replace e : arI (fun i j => some (i - j)) x y = some d := e
  unfold arI at e
  split at e
  · rename_i i j
    cases e
    cases r1.int
    cases r2.int
    exact ⟨i, j, rfl, rfl, q.int c⟩
  · cases e
theorem tuple_mul1 (l : Addr) (items : Array Value) (n : Nat) (dd : Option Addr) (sl : Array (Option Value)) (u : Tok) :
    Meets (Builtin.«tuple.__mul__» ⟨[.ref l, .int 1 u], []⟩) (fun _ R s => s.heap.get? l = some { cls := .type "tuple", dict := dd, data := .seq items n, slots := sl } ∧
      R (.ok (.ret (Value.ref l))) { s with heap := s.heap, toks := s.toks }) :=
  .of_wp fun prog w A R s h => by
    obtain ⟨hp, g, d, tk, os⟩ := s
    obtain ⟨hl, h⟩ := h
    have f1 := AutoSeq1.idx_int
    have c1 : (items.isEmpty || (1 : Int) == 1) = true := by rw [Bool.or_eq_true]; exact .inr rfl
    wp_walk using wpAny_loadPart' hl
    all_goals (try (refine wpAny_ite_true c1 ?_; wp_walk using wpAny_loadPart' hl))
    all_goals (try exact ⟨_, rfl, h⟩)
/-- a tuple once: itself -/
def rRep1 (K : PySem.W.Frag) : R2 := fun x y H Q => ∃ l xs, x = .ref l ∧ y = .int 1 ∧ SqT K H l xs ∧ Q (.ref l) H
theorem op_rep1 {X : Cx} : OpR X (binaryOp .Mult) (rRep1 X.K) := by
  intro pins s σ H x y v u Q I rx ry h
  obtain ⟨l, xs, rfl, rfl, hT, q⟩ := h
  cases rx
  obtain ⟨t, rfl⟩ := ry
  obtain ⟨its, r, ⟨⟨cls, dd, data, sl⟩, ho, hc, n, hd⟩, hs⟩ := I.tuple hT
  simp only at hc hd
  subst hc hd
  refine wpAny_binaryOp_repeat_ref (T := "tuple") (U := "int") (by decide) ⟨_, ho, rfl⟩ (fun s' => typeIs_int s' 1 t) noFill_tuple_mul F.fills_int_mul F.slot_int_rmul repeat_tuple F.slot_int_index.lookup
    (call_meets F.slot_int_rmul (typeIs_int s 1 t) F.entry_int_rmul (F.args_int_rmul_2 _ _) (int_rmul_tuple 1 t l its.toArray n dd sl)
      ⟨ho, rfl, ⟨_, ho, rfl⟩, call_meets F.slot_tuple_mul ⟨_, ho, rfl⟩ F.entry_tuple_mul (F.args_tuple_mul_2 _ _) (tuple_mul1 l its.toArray n dd sl t) ⟨ho, ?_⟩⟩)
  exact ⟨.ref l, _, I, rfl, q⟩
def rMul (K : PySem.W.Frag) : R2 := fun x y H Q => rI CMul (fun i j => .int (i * j)) x y H Q ∨ rI CMulW (fun i j => .int (i * j)) x y H Q ∨ rRep x y H Q ∨ rRepT K x y H Q ∨ rRep1 K x y H Q
theorem o_mul : OpR X (binaryOp .Mult) (rMul X.K) := OpR.or op_mul (OpR.or op_mulW (OpR.or op_rep (OpR.or op_repT op_rep1)))
theorem Reps.rep {ds : List D} {vs : List V} {K : PySem.W.Frag} (h : Reps F α K ds vs) : ∀ n : Nat, Reps F α K (List.replicate n ds).flatten (List.replicate n vs).flatten
  | 0 => rfl
  | n + 1 => by
    rw [List.replicate_succ, List.replicate_succ, List.flatten_cons, List.flatten_cons]
    exact h.append (Reps.rep h n)
theorem flat_len {α : Type} (xs : List α) : ∀ n : Nat, (List.replicate n xs).flatten.length = xs.length * n
  | 0 => by simp
  | n + 1 => by
    rw [List.replicate_succ, List.flatten_cons, List.length_append, flat_len xs n, Nat.mul_succ, Nat.add_comm]
theorem s_mul (hW : W.Good) : Sound2 W (rMul W.K) (fun _ => binD .mul) := fun F α M H x y v u Q d c r1 r2 e q => by
  replace e : mulD x y = some d := e
  unfold mulD at e
  split at e
  · rename_i i j
    split at e
    · rename_i hc
      cases e
      cases r1.int
      cases r2.int
      unfold mulOk at hc
      rw [Bool.or_eq_true, Bool.or_eq_true, decide_eq_true_eq, decide_eq_true_eq, decide_eq_true_eq] at hc
      rcases hc with (hc | hc) | hc
      · exact .inl ⟨i, j, rfl, rfl, .inl hc, q.int c⟩
      · exact .inl ⟨i, j, rfl, rfl, .inr hc, q.int c⟩
      · exact .inr (.inl ⟨i, j, rfl, rfl, hc, q.int c⟩)
    · cases e
  · rename_i xs k
    split at e
    · rename_i hc
      cases e
      obtain ⟨p, vs, rfl, h1, h2, h3⟩ := r1.list c
      cases r2.int
      refine .inr (.inr (.inl ⟨p, k, vs, rfl, rfl, h1, hc.1, hc.2.1, ?_, fun a ha => ?_⟩))
      · rw [h2.length]
        exact line_eq ▸ hc.2.2
      · exact PQ.lst hW c q (h2.rep _) (by rw [flat_len]; exact line_eq ▸ hc.2.2) ha
    · cases e
  · rename_i xs k
    split at e
    · rename_i hk
      cases e
      cases hk
      obtain ⟨p, vs, rfl, f1, h1, h2, h3⟩ := r1.tuple c
      cases r2.int
      exact .inr (.inr (.inr (.inr ⟨p, vs, rfl, rfl, h1, PQ.here c q (.inl ⟨p, vs, rfl, f1, h2, h3⟩)⟩)))
    split at e
    · rename_i hc
      cases e
      obtain ⟨p, vs, rfl, f1, h1, h2, h3⟩ := r1.tuple c
      cases r2.int
      refine .inr (.inr (.inr (.inl ⟨p, k, vs, rfl, rfl, h1, ?_, hc.2.1, hc.2.2.1, by rw [h2.length]; exact hc.2.2.2, fun a ha => ?_⟩)))
      · intro z
        exact hc.1 (List.length_eq_zero_iff.mp (by rw [← h2.length, z]; rfl))
      · refine PQ.tup hW c q (h2.rep _) ?_ ha
        rw [flat_len]
        have h1 : k.toNat ≤ 1000 := by omega
        exact Nat.le_trans (Nat.mul_le_mul hc.2.2.2 h1) (by decide)
    · cases e
  · cases e
/-! ### ==, is, in, order -/
theorem map_some {o : Option Bool} {d : D} (e : o.map D.bl = some d) : ∃ k, o = some k ∧ d = .bl k := by
  cases o with
  | none => cases e
  | some k =>
    cases e
    exact ⟨k, rfl, rfl⟩
def cmpF (f : D → D → Option Bool) : Mst → D → D → Option D := fun _ x y => (f x y).map .bl
def rEq2 (K : PySem.W.Frag) : R2 := fun x y H Q => rEq x y H Q ∨ rEqD K x y H Q
def rNe2 (K : PySem.W.Frag) : R2 := fun x y H Q => rNe x y H Q ∨ rNeD K x y H Q
theorem eq_cases {x y : D} {k : Bool} {v u : V} (c : CM W F α M H) (r1 : RepB W true F α H x v) (r2 : RepB W true F α H y u) (e : eqD x y = some k) :
    (scal v u = true ∧ decide (v = u) = k) ∨ ∃ p q, Dp W.K H v p ∧ Dp W.K H u q ∧ SeqAt.shaped p = true ∧ SeqAt.shaped q = true ∧ PyData.eqv p q = k := by
  unfold eqD at e
  split at e
  · cases e
    cases r1.int
    cases r2.int
    exact .inl ⟨rfl, by rw [dec_int, Bool.beq_eq_decide_eq]⟩
  · cases e
    cases r1.str
    cases r2.str
    exact .inl ⟨rfl, by rw [dec_str, Bool.beq_eq_decide_eq]⟩
  · cases e
    cases r1.bl
    cases r2.bl
    exact .inl ⟨rfl, by rw [dec_bl, Bool.beq_eq_decide_eq]⟩
  · rw [Option.bind_eq_some_iff] at e
    obtain ⟨p, e1, e⟩ := e
    rw [Option.bind_eq_some_iff] at e
    obtain ⟨q, e2, e⟩ := e
    split at e
    · rename_i hs
      rw [Bool.and_eq_true] at hs
      cases e
      exact .inr ⟨p, q, r1.dp c e1, r2.dp c e2, hs.1, hs.2, rfl⟩
    · cases e
theorem o_eq {L : Nat} (hr : Room L X.A) : OpR X (compareOp .Eq) (rEq2 X.K) := OpR.or op_eq (op_eqD hr.units)
theorem o_ne {L : Nat} (hr : Room L X.A) : OpR X (compareOp .NotEq) (rNe2 X.K) := OpR.or op_ne (op_neD hr.units)
theorem s_eq : Sound2 W (rEq2 W.K) (cmpF (cmpD .eq)) := fun F α M H x y v u Q d c r1 r2 e q => by
  obtain ⟨k, e1, rfl⟩ := map_some e
  replace e := e1
  clear e1
  rcases eq_cases c r1 r2 e with ⟨h1, h2⟩ | ⟨p, p', d1, d2, s1, s2, e2⟩
  · exact .inl ⟨h1, h2 ▸ q.bl c⟩
  · exact .inr ⟨p, p', d1, d2, s1, s2, e2 ▸ q.bl c⟩
theorem s_ne : Sound2 W (rNe2 W.K) (cmpF (cmpD .ne)) := fun F α M H x y v u Q d c r1 r2 e q => by
  obtain ⟨k, e1, rfl⟩ := map_some e
  replace e := e1
  clear e1
  replace e : (eqD x y).map (!·) = some k := e
  rw [Option.map_eq_some_iff] at e
  obtain ⟨k', e1, rfl⟩ := e
  replace e := e1
  clear e1
  rcases eq_cases c r1 r2 e with ⟨h1, h2⟩ | ⟨p, p', d1, d2, s1, s2, e2⟩
  · exact .inl ⟨h1, h2 ▸ q.bl c⟩
  · exact .inr ⟨p, p', d1, d2, s1, s2, e2 ▸ q.bl c⟩
theorem s_ordI {f : Int → Int → Bool} : Sound2 W (rI0 fun i j => .bl (f i j)) (cmpF (ordI f)) := fun F α M H x y v u Q d c r1 r2 e q => by
  obtain ⟨k, e1, rfl⟩ := map_some e
  replace e := e1
  clear e1
  unfold ordI at e
  split at e
  · rename_i i j
    cases e
    cases r1.int
    cases r2.int
    exact ⟨i, j, rfl, rfl, q.bl c⟩
  · cases e
theorem ints_reps : ∀ {ds : List D} {ns : List Int} {vs : List V} {K : PySem.W.Frag}, ints? ds = some ns → Reps F α K ds vs → vs = ns.map V.int ∧ ds = ns.map D.int
  | [], ns, vs, K, e, h => by
    cases e
    have h : vs = [] := h
    subst h
    exact ⟨rfl, rfl⟩
  | .int i :: ds, ns, vs, K, e, h => by
    rw [ints?, Option.map_eq_some_iff] at e
    obtain ⟨ms, e1, rfl⟩ := e
    obtain ⟨v, r, rfl, h1, h2⟩ := h
    have h1 : v = .int i := h1
    subst h1
    obtain ⟨q1, q2⟩ := ints_reps e1 h2
    rw [q1, q2]
    exact ⟨rfl, rfl⟩
  | .non :: ds, _, _, _, e, _ => by cases e
  | .bl _ :: ds, _, _, _, e, _ => by cases e
  | .str _ :: ds, _, _, _, e, _ => by cases e
  | .lst _ :: ds, _, _, _, e, _ => by cases e
  | .tup _ :: ds, _, _, _, e, _ => by cases e
  | .scr _ :: ds, _, _, _, e, _ => by cases e
  | .ref _ :: ds, _, _, _, e, _ => by cases e
  | .rw _ :: ds, _, _, _, e, _ => by cases e
def rLt2 (K : PySem.W.Frag) : R2 := fun x y H Q => rI0 (fun i j => .bl (decide (i < j))) x y H Q ∨ rLtT K x y H Q
theorem o_lt {L : Nat} (hr : Room L X.A) : OpR X (compareOp .Lt) (rLt2 X.K) := OpR.or op_lt (op_ltT hr.units0)
theorem s_lt : Sound2 W (rLt2 W.K) (cmpF (cmpD .lt)) := fun F α M H x y v u Q d c r1 r2 e q => by
  obtain ⟨k, e1, rfl⟩ := map_some e
  replace e := e1
  clear e1
  replace e : ltD x y = some k := e
  unfold ltD at e
  split at e
  · rename_i i j
    cases e
    cases r1.int
    cases r2.int
    exact .inl ⟨i, j, rfl, rfl, q.bl c⟩
  · rename_i xs ys
    rw [Option.bind_eq_some_iff] at e
    obtain ⟨ns, e1, e⟩ := e
    rw [Option.map_eq_some_iff] at e
    obtain ⟨ms, e2, rfl⟩ := e
    obtain ⟨p, vs, rfl, f1, h1, h2, h3⟩ := r1.tuple c
    obtain ⟨p', vs', rfl, f1', h1', h2', h3'⟩ := r2.tuple c
    have i1 := (ints_reps e1 h2).1
    have i2 := (ints_reps e2 h2').1
    subst i1
    subst i2
    exact .inr ⟨p, p', ns, ms, rfl, rfl, h1, h1', q.bl c⟩
  · cases e
def rIs2 : R2 := fun x y H Q => (y = .non ∧ Q (.bl (decide (x = .non))) H) ∨ ∃ a b, x = .bl a ∧ y = .bl b ∧ Q (.bl (decide (a = b))) H
def rIsN2 : R2 := fun x y H Q => (y = .non ∧ Q (.bl (!decide (x = .non))) H) ∨ ∃ a b, x = .bl a ∧ y = .bl b ∧ Q (.bl (!decide (a = b))) H
theorem o_is : OpR X (compareOp .Is) rIs2 := OpR.or op_isN op_is_bl
theorem o_isnot : OpR X (compareOp .IsNot) rIsN2 := OpR.or op_notN op_isnot_bl
theorem is_cases {x y : D} {k : Bool} {v u : V} (c : CM W F α M H) (r1 : RepB W true F α H x v) (r2 : RepB W true F α H y u) (e : isD x y = some k) :
    (u = .non ∧ decide (v = .non) = k) ∨ ∃ a b, v = .bl a ∧ u = .bl b ∧ decide (a = b) = k := by
  unfold isD at e
  split at e
  · cases e
    cases r1.non
    cases r2.non
    exact .inl ⟨rfl, rfl⟩
  · cases e
    obtain ⟨a, rfl, _⟩ := r1.ref
    cases r2.non
    exact .inl ⟨rfl, rfl⟩
  · cases e
    cases r1.bl
    cases r2.bl
    exact .inr ⟨_, _, rfl, rfl, rfl⟩
  · rename_i h1 h2
    cases e
    cases r2.non
    refine .inl ⟨rfl, decide_eq_false fun z => ?_⟩
    subst z
    rcases r1 with r1 | ⟨_, _, _, _, _, z, _⟩
    · cases x with
      | non => exact h1 rfl
      | bl _ => cases r1
      | int _ => cases r1
      | str _ => cases r1
      | lst _ => obtain ⟨_, _, z, _⟩ := r1; cases z
      | tup _ => obtain ⟨_, _, z, _⟩ := r1; cases z
      | scr _ => obtain ⟨_, _, z, _⟩ := r1; cases z
      | ref _ => obtain ⟨_, z, _⟩ := r1; cases z
      | rw _ => obtain ⟨_, _, z, _⟩ := r1; cases z
    · cases z
  · cases e
theorem s_is : Sound2 W rIs2 (cmpF (cmpD .isn)) := fun F α M H x y v u Q d c r1 r2 e q => by
  obtain ⟨k, e1, rfl⟩ := map_some e
  replace e := e1
  clear e1
  rcases is_cases c r1 r2 e with ⟨h1, h2⟩ | ⟨a, b, h1, h2, h3⟩
  · exact .inl ⟨h1, h2 ▸ q.bl c⟩
  · exact .inr ⟨a, b, h1, h2, h3 ▸ q.bl c⟩
theorem s_isnot : Sound2 W rIsN2 (cmpF (cmpD .nisn)) := fun F α M H x y v u Q d c r1 r2 e q => by
  obtain ⟨k, e1, rfl⟩ := map_some e
  replace e := e1
  clear e1
  replace e : (isD x y).map (!·) = some k := e
  rw [Option.map_eq_some_iff] at e
  obtain ⟨k', e1, rfl⟩ := e
  replace e := e1
  clear e1
  rcases is_cases c r1 r2 e with ⟨h1, h2⟩ | ⟨a, b, h1, h2, h3⟩
  · exact .inl ⟨h1, h2 ▸ q.bl c⟩
  · exact .inr ⟨a, b, h1, h2, h3 ▸ q.bl c⟩
def rIn2 (K : PySem.W.Frag) : R2 := fun x y H Q => rInD K x y H Q ∨ rIn K false x y H Q ∨ ∃ (c : Nat) (z : Str), x = .str ⟨#[c]⟩ ∧ y = .str z ∧ Q (.bl (decide (c ∈ z.cps.toList))) H
def rNin2 (K : PySem.W.Frag) : R2 := fun x y H Q => rNotInD K x y H Q ∨ rIn K true x y H Q ∨ ∃ (c : Nat) (z : Str), x = .str ⟨#[c]⟩ ∧ y = .str z ∧ Q (.bl (!decide (c ∈ z.cps.toList))) H
theorem room65 {L : Nat} {A : Around} (hr : Room L A) : A.units + 65 < cLine := by
  have := hr.un
  omega
theorem o_in {L : Nat} (hr : Room L X.A) : OpR X (compareOp .In) (rIn2 X.K) := OpR.or (op_inD (room65 hr)) (OpR.or op_in_seq op_in_sign)
theorem o_notin {L : Nat} (hr : Room L X.A) : OpR X (compareOp .NotIn) (rNin2 X.K) := OpR.or (op_notInD (room65 hr)) (OpR.or op_notIn_seq op_notIn_sign)
theorem inV_ints (i : Int) (ns : List Int) : inV (.int i) (ns.map V.int) = decide (i ∈ ns) := by
  unfold inV
  rw [List.any_map]
  by_cases h : i ∈ ns
  · rw [decide_eq_true h, List.any_eq_true]
    exact ⟨i, h, by simp [eqV]⟩
  · rw [decide_eq_false h, List.any_eq_false]
    intro x hx z
    simp only [Function.comp, eqV, beq_iff_eq] at z
    exact h (z ▸ hx)
theorem flat_ints (ns : List Int) : (ns.map V.int).all flatV = true := by
  rw [List.all_map, List.all_eq_true]
  exact fun _ _ => rfl
theorem one_sign {t : Str} (h : t.cps.size = 1) : ∃ c, t = ⟨#[c]⟩ := by
  obtain ⟨⟨l⟩⟩ := t
  match l, h with
  | [c], _ => exact ⟨c, rfl⟩
theorem in_cases {x y : D} {k : Bool} {v u : V} (c : CM W F α M H) (r1 : RepB W true F α H x v) (r2 : RepB W true F α H y u) (e : inD x y = some k) :
    (∃ d ds, Dp W.K H v d ∧ Dp W.K H u (.list ds) ∧ SeqAt.shaped d = true ∧ SeqAt.shaped (.list ds) = true ∧ (ds.any fun z => PyData.eqv z d) = k) ∨
    (∃ p xs, u = .ref p ∧ (SqL W.K H p xs ∨ SqT W.K H p xs) ∧ flatV v = true ∧ xs.all flatV = true ∧ inV v xs = k) ∨ ∃ (c : Nat) (z : Str), v = .str ⟨#[c]⟩ ∧ u = .str z ∧ decide (c ∈ z.cps.toList) = k := by
  unfold inD at e
  split at e
  · rename_i ys
    rw [Option.bind_eq_some_iff] at e
    obtain ⟨p, e1, e⟩ := e
    rw [Option.bind_eq_some_iff] at e
    obtain ⟨qs, e2, e⟩ := e
    split at e
    · rename_i hs
      rw [Bool.and_eq_true] at hs
      cases e
      exact .inl ⟨p, qs, r1.dp c e1, r2.dp c (by rw [D.py, e2]; rfl), hs.1, hs.2, rfl⟩
    · cases e
  · rename_i ys
    split at e
    · rename_i i ns hi
      cases e
      cases r1.int
      obtain ⟨p, vs, rfl, f1, h1, h2, h3⟩ := r2.tuple c
      have i1 := (ints_reps hi h2).1
      subst i1
      exact .inr (.inl ⟨p, _, rfl, .inr (h1), rfl, flat_ints ns, inV_ints i ns⟩)
    · cases e
  · rename_i s
    split at e
    · rename_i t
      split at e
      · rename_i h1
        cases e
        obtain ⟨c, rfl⟩ := one_sign h1
        cases r1.str
        cases r2.str
        exact .inr (.inr ⟨c, s, rfl, rfl, by simp⟩)
      · cases e
    · cases e
  · cases e
theorem s_in : Sound2 W (rIn2 W.K) (cmpF (cmpD .inn)) := fun F α M H x y v u Q d c r1 r2 e q => by
  obtain ⟨k, e1, rfl⟩ := map_some e
  replace e := e1
  clear e1
  rcases in_cases c r1 r2 e with ⟨d, ds, h1, h2, h3, h4, h5⟩ | ⟨p, xs, h1, h2, h3, h4, h5⟩ | ⟨c', z, h1, h2, h3⟩
  · exact .inl ⟨d, ds, h1, h2, h3, h4, h5 ▸ q.bl c⟩
  · exact .inr (.inl ⟨p, xs, h1, h2, h3, h4, h5 ▸ q.bl c⟩)
  · exact .inr (.inr ⟨c', z, h1, h2, h3 ▸ q.bl c⟩)
theorem s_notin : Sound2 W (rNin2 W.K) (cmpF (cmpD .nin)) := fun F α M H x y v u Q d c r1 r2 e q => by
  obtain ⟨k, e1, rfl⟩ := map_some e
  replace e := e1
  clear e1
  replace e : (inD x y).map (!·) = some k := e
  rw [Option.map_eq_some_iff] at e
  obtain ⟨k', e1, rfl⟩ := e
  replace e := e1
  clear e1
  rcases in_cases c r1 r2 e with ⟨d, ds, h1, h2, h3, h4, h5⟩ | ⟨p, xs, h1, h2, h3, h4, h5⟩ | ⟨c', z, h1, h2, h3⟩
  · exact .inl ⟨d, ds, h1, h2, h3, h4, h5 ▸ q.bl c⟩
  · exact .inr (.inl ⟨p, xs, h1, h2, h3, h4, h5 ▸ q.bl c⟩)
  · exact .inr (.inr ⟨c', z, h1, h2, h3 ▸ q.bl c⟩)
/-! ### subscripts -/
theorem atI_reps {ds : List D} {vs : List V} {i : Int} {d : D} {K : PySem.W.Frag} (h : Reps F α K ds vs) (e : atI ds i = some d) : ∃ v, atI vs i = some v ∧ Rep F α K d v := by
  unfold atI at e ⊢
  rw [Option.bind_eq_some_iff] at e
  obtain ⟨j, e1, e2⟩ := e
  obtain ⟨v, e3, r⟩ := h.get e2
  exact ⟨v, by rw [h.length, e1]; exact e3, r⟩
theorem s_sub1 : Sound2 W (rIx W.K) subD := fun F α M H x y v u Q d c r1 r2 e q => by
  unfold subD at e
  split at e
  · rename_i xs i
    obtain ⟨p, vs, rfl, h1, h2, h3⟩ := r1.list c
    cases r2.int
    obtain ⟨w, e1, r⟩ := atI_reps h2 e
    exact .inl ⟨p, vs, i, w, rfl, rfl, SqL.of h1, e1, PQ.here c q (.inl r)⟩
  · rename_i xs i
    obtain ⟨p, vs, rfl, f1, h1, h2, h3⟩ := r1.tuple c
    cases r2.int
    obtain ⟨w, e1, r⟩ := atI_reps h2 e
    exact .inr (.inl ⟨p, vs, i, w, rfl, rfl, h1, e1, PQ.here c q (.inl r)⟩)
  · rename_i xs i
    obtain ⟨p, vs, rfl, h1, h2, h3⟩ := r1.scr c
    cases r2.int
    obtain ⟨w, e1, r⟩ := atI_reps h2 e
    exact .inl ⟨p, vs, i, w, rfl, rfl, h1, e1, PQ.here c q (.inl r)⟩
  · rename_i s i
    split at e
    · rename_i hl
      rw [Option.map_eq_some_iff] at e
      obtain ⟨c', e1, rfl⟩ := e
      cases r1.str
      cases r2.int
      exact .inr (.inr ⟨s, i, c', rfl, rfl, line_eq ▸ hl, e1, q.str c⟩)
    · cases e
  · rename_i n i
    split at e
    · rename_i xs hm
      obtain ⟨a, rfl, ha⟩ := r1.ref
      cases r2.int
      obtain ⟨⟨vs, h1, h2, h3⟩, _⟩ := c.al n a _ ha hm
      obtain ⟨w, e1, r⟩ := atI_reps h2 e
      exact .inl ⟨a, vs, i, w, rfl, rfl, SqL.of h1, e1, PQ.here c q (.inl r)⟩
    · cases e
  · cases e
theorem m_sub {a e : Expr} {pos : Pos} {ta tb : En → Mst → R D} (hK : X.K = W.K) (ha : PE X a (tE W XW true ta)) (hb : PE X e (tE W XW true tb)) (hs : PlainIx e) : PE X (.Subscript a e pos) (tE W XW false (t2 ta tb subD)) :=
  PE.imp (pe_ix (hK ▸ ix_seq) ha hb hs) (tE_2 s_sub1)
end
end Mi
end
section
set_option Elab.async false
set_option autoImplicit false
set_option linter.all false
set_option maxRecDepth 100000
set_option maxHeartbeats 4000000
namespace Mi
open PySem PySem.Spec PyProof.Rows L2
/-! ### forms of expressions -/
def noStar : Expr → Bool
  | .Starred _ _ => false
  | _ => true
def noSlice : Expr → Bool
  | .Slice _ _ _ _ => false
  | _ => true
def noSet : Expr → Bool
  | .Set _ _ _ => false
  | _ => true
def noComp : Expr → Bool
  | .ListComp _ _ _ _ => false
  | .SetComp _ _ _ _ => false
  | .DictComp _ _ _ _ _ => false
  | _ => true
/-- its test is its value's truth -/
def plainTest : Expr → Bool
  | .UnaryOp .Not _ _ => false
  | .BoolOp _ _ _ => false
  | .IfExp _ _ _ _ => false
  | .Compare _ _ _ _ => false
  | _ => true
theorem star_of {e : Expr} {es : List Expr} {env : Env} (h : noStar e = true) : starEach (e :: es) env = (false, eval e env) :: starEach es env := by
  cases e <;> first | rfl | cases h
theorem plainIx_of {e : Expr} (h : noSlice e = true) : PlainIx e := fun o i => by
  cases e <;> first | rfl | cases h
theorem marks_of {op : CmpOp} {e : Expr} (h : noSet e = true) : behindInMarks op e = false := by
  cases e <;> first | rfl | cases h
theorem sw_of {e : Expr} {t : Option Expr} {l : Nat} {env : Env} (h : noComp e = true) : swapsWith e t l env = pure false := by
  cases e <;> first | rfl | cases h
theorem test_of {e : Expr} {env : Env} (h : plainTest e = true) : ∀ whole, isTrue e env whole = (do let v ← whole; standAt e.pos; holding [v] (truthy v)) := by
  intro whole
  cases e with
  | UnaryOp op x pos => cases op <;> first | rfl | cases h
  | BoolOp _ _ _ => cases h
  | IfExp _ _ _ _ => cases h
  | Compare _ _ _ _ => cases h
  | _ => rfl
theorem backTo_star {pos : Pos} {es : List Expr} {env : Env} (h : es.all noStar = true) : (backTo pos (starEach es env)).any (·.1) = false := by
  induction es with
  | nil => rfl
  | cons e es ih =>
    rw [List.all_cons, Bool.and_eq_true] at h
    rw [star_of h.1]
    show (false || _) = false
    rw [Bool.false_or]
    exact ih h.2
section
variable {W : Wd} {XW : L2.WX} {b : Bool} {F F' F2 H H' H2 : Hp} {α α' α2 : List Addr} {M M' : Mst} {ρ : En} {σ : L2.St} {Q : VK} {d : D} {v : V} {X : Cx}
/-! ### lists of arguments -/
def postL (W : Wd) (X : L2.WX) (F : Hp) (α : List Addr) (σ : L2.St) (H : Hp) (Q : List V → Hp → Prop) : R (List D) → Prop
  | .ok ds M' => ∀ F' α' H' vs, Grow O0 F α H F' α' H' → CM W F' α' M' H' → Reps F' α' W.K ds vs → Q vs H'
  | .exc c M' => PX W X F α σ H c M'
  | .stuck => False
def tL (W : Wd) (X : L2.WX) (t : En → Mst → R (List D)) : TA := fun σ H Q => ∃ F α ρ M, CM W F α M H ∧ SL W F α H ρ σ ∧ postL W X F α σ H Q (t ρ M)
theorem postL.grow {Q : List V → Hp → Prop} {r : R (List D)} (g : Grow O0 F α H F' α' H') (h : postL W XW F α σ H Q r) : postL W XW F' α' σ H' Q r := by
  cases r with
  | ok d M => exact fun F2 α2 H2 vs g2 c r => h F2 α2 H2 vs (g.trans0 g2) c r
  | exc c M => exact fun F2 α2 H2 g2 c => h F2 α2 H2 (g.trans0 g2) c
  | stuck => exact h
theorem bindEL {Q : List V → Hp → Prop} {ta : En → Mst → R D} {f : D → Mst → R (List D)} {K : V → Hp → Prop} {b' : Bool} (c : CM W F α M H) (s : SL W F α H ρ σ) (h : postL W XW F α σ H Q ((ta ρ M).bind f))
    (k : ∀ F1 α1 H1 M1 x v, Grow O0 F α H F1 α1 H1 → CM W F1 α1 M1 H1 → SL W F1 α1 H1 ρ σ → RepB W b' F1 α1 H1 x v → postL W XW F1 α1 σ H1 Q (f x M1) → K v H1) : tE W XW b' ta σ H K := by
  refine ⟨F, α, ρ, M, c, s, ?_⟩
  cases e : ta ρ M with
  | ok x M1 =>
    rw [e] at h
    exact fun F1 α1 H1 v g c1 r => k F1 α1 H1 M1 x v g c1 (s.grow g) r (h.grow g)
  | exc n M1 =>
    rw [e] at h
    exact h
  | stuck =>
    rw [e] at h
    exact h
theorem bindL {ta : En → Mst → R (List D)} {f : List D → Mst → R D} {K : List V → Hp → Prop} (c : CM W F α M H) (s : SL W F α H ρ σ) (h : post W XW b F α σ H Q ((ta ρ M).bind f))
    (k : ∀ F1 α1 H1 M1 xs vs, Grow O0 F α H F1 α1 H1 → CM W F1 α1 M1 H1 → SL W F1 α1 H1 ρ σ → Reps F1 α1 W.K xs vs → post W XW b F1 α1 σ H1 Q (f xs M1) → K vs H1) : tL W XW ta σ H K := by
  refine ⟨F, α, ρ, M, c, s, ?_⟩
  cases e : ta ρ M with
  | ok x M1 =>
    rw [e] at h
    exact fun F1 α1 H1 v g c1 r => k F1 α1 H1 M1 x v g c1 (s.grow g) r (h.grow g)
  | exc n M1 =>
    rw [e] at h
    exact h
  | stuck =>
    rw [e] at h
    exact h
theorem PA.imp {es : List Expr} {t t' : TA} (h : PA X es t) (k : ∀ σ H Q, t' σ H Q → t σ H Q) : PA X es t' := ⟨fun pos pins s σ H Q I q => h.run pos pins s σ H Q I (k σ H Q q)⟩
theorem m_nil : PA X [] (tL W XW fun _ M => .ok [] M) := PA.imp pa_nil fun σ H Q ⟨F, α, ρ, M, c, s, h⟩ => h F α H [] Grow.refl c rfl
theorem m_cons {e : Expr} {es : List Expr} {ta : En → Mst → R D} {ts : En → Mst → R (List D)} (ha : PE X e (tE W XW false ta)) (hs : PA X es (tL W XW ts)) (hn : noStar e = true) :
    PA X (e :: es) (tL W XW fun ρ M => (ta ρ M).bind fun d M => (ts ρ M).bind fun ds M => .ok (d :: ds) M) := PA.imp (pa_cons ha hs (star_of hn)) fun σ H Q ⟨F, α, ρ, M, c, s, h⟩ => by
  refine bindEL c s h fun F1 α1 H1 M1 x v g1 c1 s1 r1 h1 => ?_
  refine ⟨F1, α1, ρ, M1, c1, s1, ?_⟩
  cases e : ts ρ M1 with
  | ok ds M2 =>
    rw [e] at h1
    exact fun F2 α2 H2 vs g2 c2 r2 => h1 F2 α2 H2 (v :: vs) g2 c2 ⟨v, vs, rfl, g2.rep r1.strict, r2⟩
  | exc n M2 =>
    rw [e] at h1
    exact h1
  | stuck =>
    rw [e] at h1
    exact h1
/-! ### displays -/
theorem m_tup (hW : W.Good) {es : List Expr} {k : Nat} {pos : Pos} {ts : En → Mst → R (List D)} (hs : PA X es (tL W XW ts)) (hl : ∀ ρ M ds M', ts ρ M = .ok ds M' → ds.length ≤ sizeLine) :
    PE X (.Tuple es k pos) (tE W XW false fun ρ M => (ts ρ M).bind fun ds M => .ok (.tup ds) M) := PE.imp (pe_tup hs) fun σ H Q ⟨F, α, ρ, M, c, s, h⟩ => by
  refine ⟨F, α, ρ, M, c, s, ?_⟩
  dsimp only at h
  cases e : ts ρ M with
  | ok ds M1 =>
    rw [e] at h
    intro F1 α1 H1 vs g1 c1 r1
    have hl := hl _ _ _ _ e
    refine ⟨by rw [r1.length]; exact hl, fun p hp => ?_⟩
    exact PQ.tup hW c1 (PQ.grow g1 h) r1 hl hp
  | exc n M1 =>
    rw [e] at h
    exact h
  | stuck =>
    rw [e] at h
    exact h
theorem m_lst (hW : W.Good) {es : List Expr} {pos : Pos} {ts : En → Mst → R (List D)} (hs : PA X es (tL W XW ts)) (hl : ∀ ρ M ds M', ts ρ M = .ok ds M' → ds.length ≤ sizeLine) :
    PE X (.List es pos) (tE W XW false fun ρ M => (ts ρ M).bind fun ds M => .ok (.lst ds) M) := PE.imp (pe_lst hs) fun σ H Q ⟨F, α, ρ, M, c, s, h⟩ => by
  refine ⟨F, α, ρ, M, c, s, ?_⟩
  dsimp only at h
  cases e : ts ρ M with
  | ok ds M1 =>
    rw [e] at h
    intro F1 α1 H1 vs g1 c1 r1
    have hl := hl _ _ _ _ e
    refine ⟨by rw [r1.length]; exact hl, fun p hp => ?_⟩
    exact PQ.lst hW c1 (PQ.grow g1 h) r1 hl hp
  | exc n M1 =>
    rw [e] at h
    exact h
  | stuck =>
    rw [e] at h
    exact h
/-- a new list that is changed later -/
theorem CM.newRef (W : Wd) (hW : W.Good) {ds : List D} {vs : List V} {p : Addr} (c : CM W F α M H) (hp : H p = none) (r : Reps F α W.K ds vs) (hl : ds.length ≤ sizeLine) : CM W F (α ++ [p]) (M ++ [.lst ds]) (upd H p (.lst vs)) ∧ Grow O0 F α H F (α ++ [p]) (upd H p (.lst vs)) := by
  have fp : F p = none := by
    cases q : F p with
    | none => rfl
    | some u =>
      have := c.sub p u q
      rw [hp] at this
      cases this
  have np : p ∉ α := fun z => by
    obtain ⟨n, o, _, _, q, _⟩ := c.at_ z
    obtain ⟨u, h, _⟩ := q.there
    rw [hp] at h
    cases h
  refine ⟨⟨fun b u e => ?_, c.fro, by simp [c.len], ?_, fun n a m e1 e2 => ?_, hW _ _ c.tb (tbl_upd fun u e => by rw [hp] at e; cases e)⟩, ⟨Same.refl _, ⟨[p], rfl⟩, fun a u h _ _ _ => ?_, fun a u h n => ⟨u, ?_, n⟩, fun a u h => .inl h, fun a h => ?_⟩⟩
  · rw [upd_ne (ne_of_none (c.sub b u e) hp)]
    exact c.sub b u e
  · rw [List.nodup_append]
    refine ⟨c.nd, by simp, fun a ha b hb => ?_⟩
    rw [List.mem_singleton] at hb
    subst hb
    exact fun z => np (z ▸ ha)
  · by_cases hn : n < α.length
    · rw [List.getElem?_append_left hn] at e1
      rw [List.getElem?_append_left (c.len ▸ hn)] at e2
      obtain ⟨q1, q2⟩ := c.al n a m e1 e2
      refine ⟨q1.mono W (Same.refl _) ⟨[p], rfl⟩ ?_, q2⟩
      obtain ⟨u, h1, _⟩ := q1.there
      exact (upd_ne (ne_of_none h1 hp)).symm
    · have hn2 : n = α.length := by
        have := (List.getElem?_eq_some_iff.mp e1).1
        simp at this
        omega
      subst hn2
      rw [List.getElem?_append_right (Nat.le_refl _), Nat.sub_self] at e1
      rw [c.len, List.getElem?_append_right (Nat.le_refl _), Nat.sub_self] at e2
      cases e1
      cases e2
      exact ⟨⟨vs, upd_same, r.mono (Same.refl _) ⟨[p], rfl⟩, hl⟩, fp⟩
  · rw [upd_ne (ne_of_none h hp)]
    exact h
  · rw [upd_ne (ne_of_none h hp)]
    exact h
  · rcases List.mem_append.mp h with h | h
    · exact .inl h
    · rw [List.mem_singleton] at h
      subst h
      exact .inr fun o e => by rw [hp] at e; cases e
theorem m_new (hW : W.Good) {es : List Expr} {pos : Pos} {ts : En → Mst → R (List D)} (hs : PA X es (tL W XW ts)) (hl : ∀ ρ M ds M', ts ρ M = .ok ds M' → ds.length ≤ sizeLine) :
    PE X (.List es pos) (tE W XW false fun ρ M => (ts ρ M).bind fun ds M => .ok (.ref M.length) (M ++ [.lst ds])) := PE.imp (pe_lst hs) fun σ H Q ⟨F, α, ρ, M, c, s, h⟩ => by
  refine ⟨F, α, ρ, M, c, s, ?_⟩
  dsimp only at h
  cases e : ts ρ M with
  | ok ds M1 =>
    rw [e] at h
    intro F1 α1 H1 vs g1 c1 r1
    have hl := hl _ _ _ _ e
    refine ⟨by rw [r1.length]; exact hl, fun p hp => ?_⟩
    obtain ⟨c2, g2⟩ := CM.newRef W hW c1 hp r1 hl
    refine h F1 _ _ _ (g1.trans0 g2) c2 (.inl ⟨p, rfl, ?_⟩)
    rw [← c1.len, List.getElem?_append_right (Nat.le_refl _), Nat.sub_self]
    rfl
  | exc n M1 =>
    rw [e] at h
    exact h
  | stuck =>
    rw [e] at h
    exact h
/-! ### one-place operations -/
theorem m_neg {e : Expr} {pos : Pos} {ta : En → Mst → R D} (ha : PE X e (tE W XW true ta)) : PE X (.UnaryOp .USub e pos) (tE W XW false fun ρ M => (ta ρ M).bind fun x M => R.of ((intOf? x).map fun i => .int (-i)) M) :=
  PE.imp (pe_un un_neg ha) fun σ H Q ⟨F, α, ρ, M, c, s, h⟩ => by
    refine bindE c s h fun F1 α1 H1 M1 x v g1 c1 s1 r1 h1 => ?_
    obtain ⟨d, e, q⟩ := post_of h1
    unfold intOf? at e
    split at e
    · rename_i i
      cases e
      cases r1.int
      exact ⟨i, rfl, q.int c1⟩
    · cases e
theorem boolOf_post {f : Bool → R D} {x : D} (h : post W XW b F α σ H Q (boolOf x M f)) : ∃ k, x = .bl k ∧ post W XW b F α σ H Q (f k) := by
  cases x with
  | bl k => exact ⟨k, rfl, h⟩
  | _ => exact h.elim
/-! ### tests -/
def postT (W : Wd) (X : L2.WX) (F : Hp) (α : List Addr) (σ : L2.St) (H : Hp) (Q : Bool → Hp → Prop) : R D → Prop
  | .ok d M' => ∃ k, d = .bl k ∧ ∀ F' α' H', Grow O0 F α H F' α' H' → CM W F' α' M' H' → Q k H'
  | .exc c M' => PX W X F α σ H c M'
  | .stuck => False
def tT (W : Wd) (X : L2.WX) (t : En → Mst → R D) : TT := fun σ H Q => ∃ F α ρ M, CM W F α M H ∧ SL W F α H ρ σ ∧ postT W X F α σ H Q (t ρ M)
theorem postT.grow {Q : Bool → Hp → Prop} {r : R D} (g : Grow O0 F α H F' α' H') (h : postT W XW F α σ H Q r) : postT W XW F' α' σ H' Q r := by
  cases r with
  | ok d M =>
    obtain ⟨k, e, h⟩ := h
    exact ⟨k, e, fun F2 α2 H2 g2 c => h F2 α2 H2 (g.trans0 g2) c⟩
  | exc c M => exact fun F2 α2 H2 g2 c => h F2 α2 H2 (g.trans0 g2) c
  | stuck => exact h
theorem PT.imp {e : Expr} {t t' : TT} (h : PT X e t) (k : ∀ σ H Q, t' σ H Q → t σ H Q) : PT X e t' := ⟨fun pins s σ H Q I q => h.run pins s σ H Q I (k σ H Q q)⟩
theorem PW.imp {e : Expr} {t t' : TT} (h : PW X e t) (k : ∀ σ H Q, t' σ H Q → t σ H Q) : PW X e t' := ⟨fun wh pins s σ H Q I q => h.run wh pins s σ H Q I (k σ H Q q)⟩
theorem tT_val {t : En → Mst → R D} {bb : Bool} : ∀ σ H Q, tT W XW t σ H Q → tE W XW bb t σ H fun x H1 => ∃ k, x = .bl k ∧ Q k H1 := fun σ H Q ⟨F, α, ρ, M, c, s, h⟩ => by
  refine ⟨F, α, ρ, M, c, s, ?_⟩
  cases e : t ρ M with
  | ok d M1 =>
    rw [e] at h
    obtain ⟨k, rfl, h⟩ := h
    intro F1 α1 H1 v g c1 r
    exact ⟨k, r.bl, h F1 α1 H1 g c1⟩
  | exc n M1 =>
    rw [e] at h
    exact h
  | stuck =>
    rw [e] at h
    exact h
/-- by its value -/
theorem m_test {e : Expr} {t : En → Mst → R D} {bb : Bool} (he : PE X e (tE W XW bb t)) (hp : plainTest e = true) : PT X e (tT W XW t) := PT.imp (pt_val he (test_of hp)) tT_val
theorem m_testCmp {op : CmpOp} {r : R2} {f : Mst → D → D → Option D} {a e : Expr} {pos : Pos} {ta tb : En → Mst → R D} (ho : OpR X (compareOp op) r) (hr : Sound2 W r f) (ha : PE X a (tE W XW true ta)) (hb : PE X e (tE W XW true tb)) (hm : behindInMarks op e = false) :
    PT X (.Compare a [op] [e] pos) (tT W XW (t2 ta tb f)) := PT.imp (pt_cmpR ho ha hb hm) fun σ H Q h => tE_2 hr _ _ _ (tT_val σ H Q h)
theorem bindT {Q : Bool → Hp → Prop} {ta : En → Mst → R D} {f : Bool → Mst → R D} {K : Bool → Hp → Prop} (c : CM W F α M H) (s : SL W F α H ρ σ) (h : postT W XW F α σ H Q ((ta ρ M).bind fun x M => boolOf x M fun k => f k M))
    (k : ∀ F1 α1 H1 M1 k, Grow O0 F α H F1 α1 H1 → CM W F1 α1 M1 H1 → SL W F1 α1 H1 ρ σ → postT W XW F1 α1 σ H1 Q (f k M1) → K k H1) : tT W XW ta σ H K := by
  refine ⟨F, α, ρ, M, c, s, ?_⟩
  cases e : ta ρ M with
  | ok x M1 =>
    rw [e] at h
    cases x with
    | bl k' => exact ⟨k', rfl, fun F1 α1 H1 g c1 => k F1 α1 H1 M1 k' g c1 (s.grow g) (postT.grow g h)⟩
    | _ => exact h.elim
  | exc n M1 =>
    rw [e] at h
    exact h
  | stuck =>
    rw [e] at h
    exact h
/-- a test ahead of a value -/
theorem bindTE {ta : En → Mst → R D} {f : Bool → Mst → R D} {K : Bool → Hp → Prop} (c : CM W F α M H) (s : SL W F α H ρ σ) (h : post W XW b F α σ H Q ((ta ρ M).bind fun x M => boolOf x M fun k => f k M))
    (k : ∀ F1 α1 H1 M1 k, Grow O0 F α H F1 α1 H1 → CM W F1 α1 M1 H1 → SL W F1 α1 H1 ρ σ → post W XW b F1 α1 σ H1 Q (f k M1) → K k H1) : tT W XW ta σ H K := by
  refine ⟨F, α, ρ, M, c, s, ?_⟩
  cases e : ta ρ M with
  | ok x M1 =>
    rw [e] at h
    cases x with
    | bl k' => exact ⟨k', rfl, fun F1 α1 H1 g c1 => k F1 α1 H1 M1 k' g c1 (s.grow g) (post.grow g h)⟩
    | _ => exact h.elim
  | exc n M1 =>
    rw [e] at h
    exact h
  | stuck =>
    rw [e] at h
    exact h
abbrev dNot (ta : En → Mst → R D) : En → Mst → R D := fun ρ M => (ta ρ M).bind fun x M => boolOf x M fun b => .ok (.bl (!b)) M
abbrev dAnd (ta tb : En → Mst → R D) : En → Mst → R D := fun ρ M => (ta ρ M).bind fun x M => boolOf x M fun k => if k then tb ρ M else .ok (.bl false) M
abbrev dOr (ta tb : En → Mst → R D) : En → Mst → R D := fun ρ M => (ta ρ M).bind fun x M => boolOf x M fun k => if k then .ok (.bl true) M else tb ρ M
abbrev dIte (tc ta tb : En → Mst → R D) : En → Mst → R D := fun ρ M => (tc ρ M).bind fun x M => boolOf x M fun k => if k then ta ρ M else tb ρ M
theorem m_testNot {e : Expr} {pos : Pos} {t : En → Mst → R D} (he : PT X e (tT W XW t)) : PT X (.UnaryOp .Not e pos) (tT W XW (dNot t)) := PT.imp (pt_not he) fun σ H Q ⟨F, α, ρ, M, c, s, h⟩ => by
  refine bindT (f := fun b M => .ok (.bl (!b)) M) c s h fun F1 α1 H1 M1 k g1 c1 s1 h1 => ?_
  obtain ⟨k', e, h1⟩ := h1
  cases e
  exact h1 F1 α1 H1 Grow.refl c1
theorem m_not {e : Expr} {pos : Pos} {t : En → Mst → R D} (he : PE X e (tE W XW true t)) : PE X (.UnaryOp .Not e pos) (tE W XW false (dNot t)) := PE.imp (pe_not he) fun σ H Q ⟨F, α, ρ, M, c, s, h⟩ => by
  refine bindE c s h fun F1 α1 H1 M1 x v g1 c1 s1 r1 h1 => ?_
  obtain ⟨k, rfl, h1⟩ := boolOf_post h1
  exact ⟨k, r1.bl, PQ.bl c1 h1⟩
theorem m_and {a y : Expr} {rest : List Expr} {pos : Pos} {ta tb : En → Mst → R D} (ha : PE X a (tE W XW true ta)) (hb : PE X (.BoolOp .And (y :: rest) pos) (tE W XW b tb)) : PE X (.BoolOp .And (a :: y :: rest) pos) (tE W XW b (dAnd ta tb)) :=
  PE.imp (pe_and ha hb) fun σ H Q ⟨F, α, ρ, M, c, s, h⟩ => by
    refine bindE c s h fun F1 α1 H1 M1 x v g1 c1 s1 r1 h1 => ?_
    obtain ⟨k, rfl, h1⟩ := boolOf_post h1
    refine ⟨k, r1.bl, ?_⟩
    cases k with
    | true => exact ⟨F1, α1, ρ, M1, c1, s1, h1⟩
    | false => exact PQ.bl c1 h1
theorem m_or {a y : Expr} {rest : List Expr} {pos : Pos} {ta tb : En → Mst → R D} (ha : PE X a (tE W XW true ta)) (hb : PE X (.BoolOp .Or (y :: rest) pos) (tE W XW b tb)) : PE X (.BoolOp .Or (a :: y :: rest) pos) (tE W XW b (dOr ta tb)) :=
  PE.imp (pe_or ha hb) fun σ H Q ⟨F, α, ρ, M, c, s, h⟩ => by
    refine bindE c s h fun F1 α1 H1 M1 x v g1 c1 s1 r1 h1 => ?_
    obtain ⟨k, rfl, h1⟩ := boolOf_post h1
    refine ⟨k, r1.bl, ?_⟩
    cases k with
    | false => exact ⟨F1, α1, ρ, M1, c1, s1, h1⟩
    | true => exact PQ.bl c1 h1
theorem m_testAnd {a y : Expr} {rest : List Expr} {pos : Pos} {ta tb : En → Mst → R D} (ha : PT X a (tT W XW ta)) (hb : PW X (.BoolOp .And (y :: rest) pos) (tT W XW tb)) : PW X (.BoolOp .And (a :: y :: rest) pos) (tT W XW (dAnd ta tb)) :=
  PW.imp (pw_and ha hb) fun σ H Q ⟨F, α, ρ, M, c, s, h⟩ => by
    refine bindT (f := fun k M => if k then tb ρ M else .ok (.bl false) M) c s h fun F1 α1 H1 M1 k g1 c1 s1 h1 => ?_
    cases k with
    | true => exact ⟨F1, α1, ρ, M1, c1, s1, h1⟩
    | false =>
      obtain ⟨k', e, h1⟩ := h1
      cases e
      exact h1 F1 α1 H1 Grow.refl c1
theorem m_testOr {a y : Expr} {rest : List Expr} {pos : Pos} {ta tb : En → Mst → R D} (ha : PT X a (tT W XW ta)) (hb : PW X (.BoolOp .Or (y :: rest) pos) (tT W XW tb)) : PW X (.BoolOp .Or (a :: y :: rest) pos) (tT W XW (dOr ta tb)) :=
  PW.imp (pw_or ha hb) fun σ H Q ⟨F, α, ρ, M, c, s, h⟩ => by
    refine bindT (f := fun k M => if k then .ok (.bl true) M else tb ρ M) c s h fun F1 α1 H1 M1 k g1 c1 s1 h1 => ?_
    cases k with
    | false => exact ⟨F1, α1, ρ, M1, c1, s1, h1⟩
    | true =>
      obtain ⟨k', e, h1⟩ := h1
      cases e
      exact h1 F1 α1 H1 Grow.refl c1
theorem m_ite {c x y : Expr} {pos : Pos} {tc ta tb : En → Mst → R D} (hc : PT X c (tT W XW tc)) (ha : PE X x (tE W XW b ta)) (hb : PE X y (tE W XW b tb)) : PE X (.IfExp c x y pos) (tE W XW b (dIte tc ta tb)) :=
  PE.imp (pe_ifExp hc ha hb) fun σ H Q ⟨F, α, ρ, M, c, s, h⟩ => by
    refine bindTE (f := fun k M => if k then ta ρ M else tb ρ M) c s h fun F1 α1 H1 M1 k g1 c1 s1 h1 => ?_
    cases k with
    | true => exact ⟨F1, α1, ρ, M1, c1, s1, h1⟩
    | false => exact ⟨F1, α1, ρ, M1, c1, s1, h1⟩
end
end Mi
end
section
set_option Elab.async false
set_option autoImplicit false
set_option linter.all false
set_option maxRecDepth 100000
set_option maxHeartbeats 4000000
/-! built-ins over lists and tuples: sum, min, max, all, any, sorted -/
namespace Mi
open PySem PySem.Spec PyProof.Rows L2 PySem.W
theorem lexLt_eq : ∀ xs ys : List Int, HT.lexLt xs ys = decide (xs < ys)
  | [], [] => by simp [HT.lexLt]
  | [], y :: ys => by simp [HT.lexLt]
  | x :: xs, [] => by simp [HT.lexLt]
  | x :: xs, y :: ys => by
    rw [HT.lexLt, lexLt_eq xs ys]
    by_cases h : x = y
    · subst h
      simp
    · rw [if_neg h]
      by_cases h2 : x < y
      · simp [List.cons_lt_cons_iff, h, h2]
      · simp [List.cons_lt_cons_iff, h, h2]
theorem dataLt_rows (xs ys : List Int) : dataLt (.tuple (xs.map .int)) (.tuple (ys.map .int)) = HT.lexLt xs ys := by
  rw [lexLt_eq, dataLt_tuple]
  exact dataLt_ints xs ys
/-! ### collect, sorted of a tuple -/
section
variable {prog : Program} {w : World} {A : Around} {E : Value → Shared → Prop} {s : Shared}
theorem collect_tup {l : Addr} {vs : List Value} {Q : List Value → Shared → Prop} (hl : s.heap.IsTuple l vs.toArray)
    (h : Q vs { s with heap := (s.heap.push (seqObj "list" #[] 0)).update s.heap.objs.size (Obj.mapSeq (· ++ vs.toArray)) }) (hsz : vs.length ≤ sizeLine) :
    wpAny (model prog w) A (collect (.ref l)) Q E s := by
  obtain ⟨o, ho, hc, n, hd⟩ := id hl
  unfold collect
  refine wpAny_bind (wpAny_runValue (codeAny_builtin entry_proto_collect' ?_))
  show wpAny _ _ (do again (.builtin "list.__iadd__" ⟨[← newList [], .ref l], []⟩)) _ _ s
  refine wpAny_bind (wpAny_newList (wpAny_pure ⟨Code.quiet_builtin _ (by decide +kernel), codeAny_builtin entry_list_iadd' ?_⟩))
  show wpAny _ _ (Builtin.List.listExtendWith (.ref s.heap.objs.size) (.ref l) (.ref s.heap.objs.size)) _ _ { s with heap := s.heap.push (seqObj "list" #[] 0) }
  unfold Builtin.List.listExtendWith
  have ho' : (s.heap.push (seqObj "list" #[] 0)).get? l = some o := Heap.get?_push_of_some _ ho
  refine wpAny_bind (wpAny_typeOf (T := "tuple") ⟨o, ho', hc⟩ ?_)
  have ht : (Value.type "tuple" == Value.type "tuple") = true := by rfl
  rw [if_pos (by rw [ht]; simp)]
  refine wpAny_bind (listItems_at ho' hd ?_)
  refine wpAny_bind (listItems_at (xs := #[]) (n := 0) (Heap.get?_push_size _ rfl) rfl ?_)
  rw [if_neg (by simp)]
  refine wpAny_bind (listUpdate_at (xs := #[]) (n := 0) (Heap.get?_push_size _ rfl) rfl ?_ (Nat.zero_le _) (by show (#[] ++ vs.toArray).size ≤ sizeLine + 1; simp only [Array.size_append, List.size_toArray, List.length_nil]; omega))
  refine wpAny_pure ?_
  show wpAny (model prog w) A (do
      let o ← load s.heap.objs.size
      match o.data with
      | .seq xs _ => pure xs.toList
      | _ => unsupported "internal:collect") Q E { s with heap := (s.heap.push (seqObj "list" #[] 0)).update s.heap.objs.size (Obj.mapSeq (· ++ vs.toArray)) }
  refine wpAny_bind (wpAny_load (get?_update_seq (Heap.get?_push_size _ rfl) _) ?_)
  show wpAny _ _ (pure ((#[] : Array Value) ++ vs.toArray).toList) Q E _
  rw [show ((#[] : Array Value) ++ vs.toArray).toList = vs by simp]
  exact wpAny_pure h
theorem sorted_of_sortT {l : Addr} {vs : List Value} {Q : Value → Shared → Prop} (hl : s.heap.IsTuple l vs.toArray) (hL : vs.length ≤ sizeLine)
    (body : ∀ E' : Value → Shared → Prop, wpAny (model prog w) A.in1.in1 (Builtin.«list.sort» ⟨[.ref (s.heap.objs.size + 1)], []⟩) (fun f s' => f = .done (.ret .none) ∧ Q (.ref (s.heap.objs.size + 1)) s') E' { s with heap := copyHeap s.heap vs }) :
    wpAny (model prog w) A (call (.builtin "sorted") [.ref l]) Q E s := by
  refine Calls.call_function_entry kind_sorted plain_sorted entry_sorted (args_sorted1 _) ?_
  unfold Builtin.«sorted»
  refine wpAny_bind (m := checkCount "sorted" 1 1 _) (wpAny_pure ?_)
  refine wpAny_bind (collect_tup hl ?_ hL)
  refine wpAny_bind (wpAny_newList ?_ hL)
  have hsz : ((s.heap.push (seqObj "list" #[] 0)).update s.heap.objs.size (Obj.mapSeq (· ++ vs.toArray))).objs.size = s.heap.objs.size + 1 := by
    rw [Heap.size_update, size_push']
  show wpAny _ _ _ _ _ { s with heap := copyHeap s.heap vs }
  rw [hsz]
  refine wpAny_bind (wpAny_holding (wpAny_call_entry slot_list_sort ⟨_, copyHeap_at s.heap vs, rfl⟩ entry_list_sort ?body (args_list_sort _)))
  case body =>
    show wpAny (model prog w) A.in1.in1 (Builtin.«list.sort» ⟨[.ref (s.heap.objs.size + 1)], []⟩) _ _ _
    refine wpAny_mono (body _) (fun f s' hf => ?_) fun _ _ e => e
    obtain ⟨rfl, hq⟩ := hf
    exact ⟨_, rfl, wpAny_pure ⟨_, rfl, hq⟩⟩
variable {β : Type} {vs : List Value} {bs : List β} {enc : β → PyData} {R : Value → β → Prop}
theorem sorted_dataT {l : Addr} {Q : Value → Shared → Prop} (hl : s.heap.IsTuple l vs.toArray) (e : EachIs R vs bs) (er : EachIs (fun v b => ∃ as, Reads s.heap v (enc b) as) vs bs) (hal : AllAlike (bs.map enc)) (hk : Sortable (bs.map enc)) (hL : bs.length ≤ sizeLine)
    (hu : ∀ b, b ∈ bs → A.units + 2 + (enc b).depth < cLine) (h : ∀ out, out.length = bs.length → EachIs R out (bs.mergeSort (dataLe false enc)) → Q (.ref (s.heap.objs.size + 1)) { s with heap := sortedAll s.heap vs (List.toArray out) }) :
    wpAny (model prog w) A (call (.builtin "sorted") [.ref l]) Q E s := by
  have er' : EachIs (fun v b => ∃ as, Reads (sortingHeap (copyHeap s.heap vs) (s.heap.objs.size + 1) vs) v (enc b) as) vs bs := er.mono fun _ _ ⟨as, r⟩ => ⟨as, PyProof.Rows.Reads.keeps (fun _ _ => sorting_copy_old) r⟩
  have hL' : vs.length ≤ sizeLine := by rw [e.length]; exact hL
  exact sorted_of_sortT hl hL' fun _ => list_sort_vals (s := { s with heap := copyHeap s.heap vs }) (copyHeap_at s.heap vs) (SortsAt.data (s := { s with heap := sortingHeap (copyHeap s.heap vs) (s.heap.objs.size + 1) vs }) (each_map (R := fun v d => ∃ as, Reads (sortingHeap (copyHeap s.heap vs) (s.heap.objs.size + 1) vs) v d as) enc er') hal hk (bound_map hu)) hL'
    ⟨rfl, h _ (by rw [sortVals_length false rfl]; exact e.length) (sortVals_data false e er' hal)⟩
end
/-! ### the calls by values -/
/-- a list or a tuple that is read -/
def SqA (K : PySem.W.Frag) (H : Hp) (a : Addr) (xs : List V) : Prop := SqL K H a xs ∨ SqT K H a xs
section
variable {X : Cx} {pins : List (Addr × Obj)} {σ : L2.St} {H : Hp} {s : Shared}
theorem Inv.seqA (I : Inv X pins σ H s) {a : Addr} {xs : List V} (h : SqA X.K H a xs) : ∃ its : List Value, Vals xs its ∧ (s.heap.IsList a its.toArray ∨ s.heap.IsTuple a its.toArray) ∧ xs.length ≤ sizeLine := by
  rcases h with h | h
  · obtain ⟨its, r, p, z⟩ := I.list h
    exact ⟨its, r, .inl p.isList, z⟩
  · obtain ⟨its, r, p, z⟩ := I.tuple h
    exact ⟨its, r, .inr p, z⟩
theorem cr_sumT (hc : X.calm = true) : CallR X (.builtin "sum") (fun vs H Q => ∃ (a : Addr) (ns : List Int), vs = [V.ref a] ∧ SqT X.K H a (ns.map V.int) ∧ Q (.int ns.sum) H) := by
  intro pins s σ H vs us Q I r h
  obtain ⟨a, ns, rfl, hs, q⟩ := h
  obtain ⟨its, rv, hl, _⟩ := I.tuple hs
  rw [Vals.ref1 r]
  obtain ⟨xs, e⟩ := rv.ints.allInts.items
  have hn : numsOf (intItems xs).toList = ns := by rw [← e]; exact rv.ints.numsOf
  rw [nums_intItems] at hn
  rw [e] at hl
  refine call_sum_walkAnyS (iter_tupleW (A := X.A.in1) (I.ok.hd hc) hl fun s₂ e2 W st hfp hw hk => ?_)
  refine ⟨_, _, _, _, _, _, _, numAt xs, rfl, W, st, hfp, fun i v hv => intItems_at hv, fun s' t' m => ?_⟩
  obtain ⟨h', tk, rfl, hk'⟩ := moved_old e2 rfl m
  refine ⟨.int _, H, I.kept hk', ⟨t', ?_⟩, q⟩
  rw [preSum_eq, List.take_of_length_le (by simp [intItems]), hn]
theorem cr_sumA (hc : X.calm = true) : CallR X (.builtin "sum") (fun vs H Q => ∃ (a : Addr) (ns : List Int), vs = [V.ref a] ∧ SqA X.K H a (ns.map V.int) ∧ Q (.int ns.sum) H) := by
  intro pins s σ H vs us Q I r h
  obtain ⟨a, ns, e, hs, q⟩ := h
  rcases hs with hs | hs
  · exact cr_sum hc pins s σ H vs us Q I r ⟨a, ns, e, hs, q⟩
  · exact cr_sumT hc pins s σ H vs us Q I r ⟨a, ns, e, hs, q⟩
def rMMA (K : PySem.W.Frag) (f : PyData → List PyData → PyData) : List V → Hp → VK → Prop := fun vs H Q => ∃ (a : Addr) (xs : List V) (x : PyData) (ps : List PyData), vs = [V.ref a] ∧ SqA K H a xs ∧ DpAll K H xs (x :: ps) ∧ AlikeAll (x :: ps) ∧ PyData.depthAll (x :: ps) ≤ 64 ∧
  ∀ (i : Nat) (v : V), xs[i]? = some v → (x :: ps)[i]? = some (f x ps) → Q v H
theorem reads_at {h : Heap} {vs : List Value} {xs : List PyData} {as : List Addr} (hr : ReadsAll h vs xs as) {i : Nat} {v : Value} (hv : vs[i]? = some v) : ∃ d bs, xs[i]? = some d ∧ Reads h v d bs := by
  obtain ⟨bs, r, hi, hm, _⟩ := readsAll_at hr i v hv
  exact ⟨_, bs, by rw [List.getD_eq_getElem?_getD, List.getElem?_eq_getElem hi]; rfl, r⟩
theorem mm_end {f : PyData → List PyData → PyData} {Q : VK} {xs : List V} {its : List Value} {x : PyData} {ps : List PyData} {as : List Addr} {i : Nat} {v : Value} {h' : Heap} {tk : Nat} {bs : List Addr} (I : Inv X pins σ H s) (rv : Vals xs its) (hr : ReadsAll s.heap its (x :: ps) as)
    (ha : AlikeAll (x :: ps)) (hm : f x ps ∈ x :: ps) (hv : its[i]? = some v) (hb : Reads h' v (f x ps) bs) (hk : ∀ b o, s.heap.get? b = some o → h'.get? b = some o)
    (q : ∀ (i : Nat) (v : V), xs[i]? = some v → (x :: ps)[i]? = some (f x ps) → Q v H) : EP X pins σ Q v { s with heap := h', toks := tk } := by
  obtain ⟨d, cs, e1, r1⟩ := reads_at hr hv
  have e2 : d = f x ps := alike_unique _ _ _ _ _ (ha.1 d (List.mem_of_getElem? e1) _ hm) (PyProof.Rows.Reads.keeps hk r1) hb
  subst e2
  have hi : i < xs.length := by
    have := (List.getElem?_eq_some_iff.mp hv).1
    rw [rv.length]
    exact this
  have e3 : xs[i]? = some xs[i] := List.getElem?_eq_getElem hi
  obtain ⟨u, h1, h2⟩ := rv.get e3
  rw [hv] at h1
  cases h1
  exact ⟨xs[i], H, I.kept hk, h2, q i _ e3 e1⟩
theorem minD_mem (x : PyData) (xs : List PyData) : PySem.W.minD x xs ∈ x :: xs := by
  unfold PySem.W.minD
  induction xs generalizing x with
  | nil => exact List.mem_cons_self
  | cons y ys ih =>
    rw [List.foldl_cons]
    have := ih (if dataLt y x then y else x)
    rcases List.mem_cons.mp this with e | e
    · rw [e]
      split <;> simp
    · exact List.mem_cons_of_mem _ (List.mem_cons_of_mem _ e)
theorem maxD_mem (x : PyData) (xs : List PyData) : PySem.W.maxD x xs ∈ x :: xs := by
  unfold PySem.W.maxD
  induction xs generalizing x with
  | nil => exact List.mem_cons_self
  | cons y ys ih =>
    rw [List.foldl_cons]
    have := ih (if dataLt x y then y else x)
    rcases List.mem_cons.mp this with e | e
    · rw [e]
      split <;> simp
    · exact List.mem_cons_of_mem _ (List.mem_cons_of_mem _ e)
theorem cr_minA {L : Nat} (hc : X.calm = true) (hr : Room L X.A) : CallR X (.builtin "min") (rMMA X.K PySem.W.minD) := by
  intro pins s σ H vs us Q I r h
  obtain ⟨a, xs, x, ps, rfl, hs, hd, ha, hu, q⟩ := h
  obtain ⟨its, rv, hl, _⟩ := Inv.seqA I hs
  rw [Vals.ref1 r]
  obtain ⟨as, hr'⟩ := Dp.readsAll I _ _ _ hd rv
  have hu' : X.A.units + 1 + PyData.depthAll (x :: ps) < cLine := by
    have := hr.un
    omega
  rcases hl with hl | hl
  · exact min_list_data (I.ok.hd hc) hl (by simpa using hr') ha hu' fun i v h' tk bs hv hb hk => mm_end I rv hr' ha (minD_mem x ps) (by simpa using hv) hb hk q
  · exact min_tuple_data (I.ok.hd hc) hl (by simpa using hr') ha hu' fun i v h' tk bs hv hb hk => mm_end I rv hr' ha (minD_mem x ps) (by simpa using hv) hb hk q
theorem cr_maxA {L : Nat} (hc : X.calm = true) (hr : Room L X.A) : CallR X (.builtin "max") (rMMA X.K PySem.W.maxD) := by
  intro pins s σ H vs us Q I r h
  obtain ⟨a, xs, x, ps, rfl, hs, hd, ha, hu, q⟩ := h
  obtain ⟨its, rv, hl, _⟩ := Inv.seqA I hs
  rw [Vals.ref1 r]
  obtain ⟨as, hr'⟩ := Dp.readsAll I _ _ _ hd rv
  have hu' : X.A.units + 1 + PyData.depthAll (x :: ps) < cLine := by
    have := hr.un
    omega
  rcases hl with hl | hl
  · exact max_list_data (I.ok.hd hc) hl (by simpa using hr') ha hu' fun i v h' tk bs hv hb hk => mm_end I rv hr' ha (maxD_mem x ps) (by simpa using hv) hb hk q
  · exact max_tuple_data (I.ok.hd hc) hl (by simpa using hr') ha hu' fun i v h' tk bs hv hb hk => mm_end I rv hr' ha (maxD_mem x ps) (by simpa using hv) hb hk q
def rTrA (K : PySem.W.Frag) (f : List PyData → Bool) : List V → Hp → VK → Prop := fun vs H Q => ∃ (a : Addr) (xs : List V) (ps : List PyData), vs = [V.ref a] ∧ SqA K H a xs ∧ DpAll K H xs ps ∧ PyData.plainAll ps = true ∧ (∀ x ∈ ps, x.fits63) ∧ Q (.bl (f ps)) H
theorem cr_allA (hc : X.calm = true) : CallR X (.builtin "all") (rTrA X.K fun ps => ps.all PyData.truthy) := by
  intro pins s σ H vs us Q I r h
  obtain ⟨a, xs, ps, rfl, hs, hd, hp, hf, q⟩ := h
  obtain ⟨its, rv, hl, _⟩ := Inv.seqA I hs
  rw [Vals.ref1 r]
  obtain ⟨as, hr'⟩ := Dp.readsAll I _ _ _ hd rv
  rcases hl with hl | hl
  · exact all_list_data (I.ok.hd hc) hl (by simpa using hr') hp hf fun h' tk hk => ⟨.bl _, H, I.kept hk, rfl, q⟩
  · exact all_tuple_data (I.ok.hd hc) hl (by simpa using hr') hp hf fun h' tk hk => ⟨.bl _, H, I.kept hk, rfl, q⟩
theorem cr_anyA (hc : X.calm = true) : CallR X (.builtin "any") (rTrA X.K fun ps => ps.any PyData.truthy) := by
  intro pins s σ H vs us Q I r h
  obtain ⟨a, xs, ps, rfl, hs, hd, hp, hf, q⟩ := h
  obtain ⟨its, rv, hl, _⟩ := Inv.seqA I hs
  rw [Vals.ref1 r]
  obtain ⟨as, hr'⟩ := Dp.readsAll I _ _ _ hd rv
  rcases hl with hl | hl
  · exact any_list_data (I.ok.hd hc) hl (by simpa using hr') hp hf fun h' tk hk => ⟨.bl _, H, I.kept hk, rfl, q⟩
  · exact any_tuple_data (I.ok.hd hc) hl (by simpa using hr') hp hf fun h' tk hk => ⟨.bl _, H, I.kept hk, rfl, q⟩
/-- sorted(x): bs tells the items, enc what they read as -/
def rSoA (K : PySem.W.Frag) (enc : V × PyData → PyData) : List V → Hp → VK → Prop := fun vs H Q => ∃ (a : Addr) (xs : List V) (ps : List PyData), vs = [V.ref a] ∧ SqA K H a xs ∧ DpAll K H xs ps ∧ AllAlike ps ∧ Sortable ps ∧ (∀ p ∈ ps, p.depth ≤ 64) ∧
  ∀ p : Addr, H p = none → Q (.ref p) (upd H p (.lst (((xs.zip ps).mergeSort (dataLe false Prod.snd)).map Prod.fst)))
theorem eachIs_vals {ps : List PyData} : ∀ {us : List Value} {bs : List (V × PyData)}, EachIs (fun u b => RelV b.1 u) us bs → Vals (bs.map Prod.fst) us
  | _, _, .nil => .nil
  | _, _, .cons r t => .cons r (eachIs_vals (ps := ps) t)
theorem vals_eachIs : ∀ {xs : List V} {ps : List PyData} {us : List Value}, xs.length = ps.length → Vals xs us → EachIs (fun u (b : V × PyData) => RelV b.1 u) us (xs.zip ps)
  | [], [], _, _, .nil => .nil
  | x :: xs, p :: ps, _, h, .cons r t => .cons r (vals_eachIs (by simpa using h) t)
theorem readsAll_eachIs {h : Heap} : ∀ {xs : List V} {ps : List PyData} {us : List Value} {as : List Addr}, xs.length = ps.length → ReadsAll h us ps as → EachIs (fun u (b : V × PyData) => ∃ as, Reads h u b.2 as) us (xs.zip ps)
  | [], [], _, _, _, .nil => .nil
  | x :: xs, p :: ps, _, _, h, .cons r t => .cons ⟨_, r⟩ (readsAll_eachIs (by simpa using h) t)
theorem dpAll_len {K : PySem.W.Frag} {H : Hp} : ∀ {xs : List V} {ps : List PyData}, DpAll K H xs ps → xs.length = ps.length
  | _, _, .nil => rfl
  | _, _, .cons _ t => by rw [List.length_cons, List.length_cons, dpAll_len t]
theorem cr_sortedA {L : Nat} (hr : Room L X.A) : CallR X (.builtin "sorted") (rSoA X.K Prod.snd) := by
  intro pins s σ H vs us Q I r h
  obtain ⟨a, xs, ps, rfl, hs, hd, ha, hk, hu, q⟩ := h
  obtain ⟨its, rv, hl, hz⟩ := Inv.seqA I hs
  rw [Vals.ref1 r]
  obtain ⟨as, hr'⟩ := Dp.readsAll I _ _ _ hd rv
  have hlen := dpAll_len hd
  have e1 := vals_eachIs hlen rv
  have e2 := readsAll_eachIs hlen hr'
  have em : (xs.zip ps).map Prod.snd = ps := List.map_snd_zip (by omega)
  have hL : (xs.zip ps).length ≤ sizeLine := by
    rw [List.length_zip]
    omega
  have hu' : ∀ b, b ∈ xs.zip ps → X.A.units + 2 + (Prod.snd b).depth < cLine := fun b hb => by
    have h1 := hu b.2 (List.of_mem_zip hb).2
    have := hr.un
    omega
  have fin : ∀ out : List Value, out.length = (xs.zip ps).length → EachIs (fun u (b : V × PyData) => RelV b.1 u) out ((xs.zip ps).mergeSort (dataLe false Prod.snd)) →
      EP X pins σ Q (.ref (s.heap.objs.size + 1)) { s with heap := sortedAll s.heap its out.toArray } := fun out ho eo => by
    obtain ⟨ep, he'⟩ := PyProof.Rows.sortedAll_at s.heap its out.toArray
    have hv := eachIs_vals (ps := ps) eo
    refine ⟨.ref _, upd H (s.heap.objs.size + 1) (.lst _), I.laid (t' := s.toks) (fun _ _ => PyProof.Rows.sortedAll_old) (Nat.le_succ _) ⟨?_, out, ep, hv, he'⟩, rfl, q _ (I.hok.fresh (Nat.le_succ _))⟩
    rw [hv.length, ho]
    exact hL
  rcases hl with hl | hl
  · exact sorted_data hl e1 e2 (by rw [em]; exact ha) (by rw [em]; exact hk) hL hu' fin
  · exact sorted_dataT hl e1 e2 (by rw [em]; exact ha) (by rw [em]; exact hk) hL hu' fin
end
end Mi
end
section
set_option Elab.async false
set_option autoImplicit false
set_option linter.all false
set_option maxRecDepth 100000
set_option maxHeartbeats 4000000
namespace Mi
open PySem PySem.Spec PyProof.Rows L2
section
variable {W : Wd} {XW : L2.WX} {b : Bool} {F F' F2 H H' H2 : Hp} {α α' α2 : List Addr} {M M' : Mst} {ρ : En} {σ : L2.St} {Q : VK} {d : D} {v : V} {X : Cx}
def SoundC (W : Wd) (r : List V → Hp → VK → Prop) (f : D → Option D) : Prop := ∀ F α M H x v Q d, CM W F α M H → RepB W true F α H x v → f x = some d → PQ W false F α H Q d M → r [v] H Q
def t1 (ta : En → Mst → R D) (f : D → Option D) : En → Mst → R D := fun ρ M => (ta ρ M).bind fun x M => R.of (f x) M
theorem tE_1 {r : List V → Hp → VK → Prop} {f : D → Option D} {ta : En → Mst → R D} (hr : SoundC W r f) : ∀ σ H Q, tE W XW false (t1 ta f) σ H Q → tCB r (tCons (tE W XW true ta) tNil) σ H Q := fun σ H Q ⟨F, α, ρ, M, c, s, h⟩ => by
  refine bindE c s h fun F1 α1 H1 M1 x v g1 c1 s1 r1 h1 => ?_
  obtain ⟨d, e, q⟩ := post_of h1
  exact hr F1 α1 M1 H1 x v Q d c1 r1 e q
theorem m_b1B {id : String} {r : List V → Hp → VK → Prop} {f : D → Option D} {x : Str} {e : Expr} {p pos : Pos} {ta : En → Mst → R D} (hc : CallR X (.builtin id) r) (hr : SoundC W r f) (hg : Gl X x) (hm : X.mg x = none) (hv : bootBuiltins x = some (.builtin id)) (he : PE X e (tE W XW true ta)) (hs : noStar e = true)
    (hn : x ≠ "__name__") (hd : (x == ("__debug__" : Str)) = false) : PE X (.Call (.Name x p) [e] [] pos) (tE W XW false (t1 ta f)) :=
  PE.imp (pe_callB hc hg hm hv (pa_cons he pa_nil (star_of hs)) hn hd (star_of hs) rfl) (tE_1 hr)
theorem m_b1T {T : String} {r : List V → Hp → VK → Prop} {f : D → Option D} {x : Str} {e : Expr} {p pos : Pos} {ta : En → Mst → R D} (hc : CallR X (.type T) r) (hr : SoundC W r f) (hg : Gl X x) (hm : X.mg x = none) (hv : bootBuiltins x = some (.type T)) (he : PE X e (tE W XW true ta)) (hs : noStar e = true)
    (hn : x ≠ "__name__") (hd : (x == ("__debug__" : Str)) = false) : PE X (.Call (.Name x p) [e] [] pos) (tE W XW false (t1 ta f)) :=
  PE.imp (pe_callTy hc hg hm hv (pa_cons he pa_nil (star_of hs)) hn hd (star_of hs) rfl) (tE_1 hr)
/-! ### the items of a list, a tuple -/
theorem items_cases {x : D} {ds : List D} (c : CM W F α M H) (r : RepB W b F α H x v) (e : items x = some ds) : ∃ a vs, v = .ref a ∧ SqA W.K H a vs ∧ Reps F α W.K ds vs ∧ ds.length ≤ sizeLine := by
  unfold items at e
  split at e
  · cases e
    obtain ⟨p, vs, e, h1, h2, h3⟩ := r.list c
    exact ⟨p, vs, e, .inl (SqL.of h1), h2, h3⟩
  · cases e
    obtain ⟨p, vs, e, _, h1, h2, h3⟩ := r.tuple c
    exact ⟨p, vs, e, .inr h1, h2, h3⟩
  · cases e
theorem s_sum : SoundC W (fun vs H Q => ∃ (a : Addr) (ns : List Int), vs = [V.ref a] ∧ SqA W.K H a (ns.map V.int) ∧ Q (.int ns.sum) H) (b1D .sum) := fun F α M H x v Q d c r e q => by
  replace e : (items x).bind (fun xs => (ints? xs).map fun ns => D.int ns.sum) = some d := e
  rw [Option.bind_eq_some_iff] at e
  obtain ⟨ds, e1, e⟩ := e
  rw [Option.map_eq_some_iff] at e
  obtain ⟨ns, e2, rfl⟩ := e
  obtain ⟨a, vs, rfl, h1, h2, h3⟩ := items_cases c r e1
  have i1 := (ints_reps e2 h2).1
  subst i1
  exact ⟨a, ns, rfl, h1, q.int c⟩
theorem dpAll_ints {K : PySem.W.Frag} {H : Hp} : ∀ ns : List Int, DpAll K H (ns.map V.int) (ns.map PyData.int)
  | [] => .nil
  | n :: ns => .cons (.int n) (dpAll_ints ns)
theorem alike_int (i j : Int) : PySem.W.alike (.int i) (.int j) = true := by simp [PySem.W.alike]
def pRow (r : List Int) : PyData := .tuple (r.map .int)
theorem alike_row (r s : List Int) : PySem.W.alike (pRow r) (pRow s) = true := by
  show PySem.W.alike (.tuple _) (.tuple _) = true
  rw [PySem.W.alike]
  exact PySem.W.alike_ints r s
theorem alikeAll_ints (ns : List Int) : PySem.W.AlikeAll (ns.map PyData.int) := by
  refine ⟨fun x hx y hy => ?_, fun x hx => ?_⟩
  · obtain ⟨i, _, rfl⟩ := List.mem_map.mp hx
    obtain ⟨j, _, rfl⟩ := List.mem_map.mp hy
    exact alike_int i j
  · obtain ⟨i, _, rfl⟩ := List.mem_map.mp hx
    intro z
    cases z
theorem alikeAll_rows (rs : List (List Int)) : PySem.W.AlikeAll (rs.map pRow) := by
  refine ⟨fun x hx y hy => ?_, fun x hx => ?_⟩
  · obtain ⟨i, _, rfl⟩ := List.mem_map.mp hx
    obtain ⟨j, _, rfl⟩ := List.mem_map.mp hy
    exact alike_row i j
  · obtain ⟨i, _, rfl⟩ := List.mem_map.mp hx
    intro z
    cases z
theorem depth_row (r : List Int) : (pRow r).depth = 1 := by
  show PyData.depth (.tuple _) = 1
  rw [PyData.depth, PySem.W.depth_ints]
theorem depthAll_rows : ∀ rs : List (List Int), PyData.depthAll (rs.map pRow) ≤ 1
  | [] => by simp [PyData.depthAll]
  | r :: rs => by
    rw [List.map_cons, PyData.depthAll, depth_row]
    have := depthAll_rows rs
    omega
/-- a list of rows, each at its address -/
theorem rows_reps : ∀ {ds : List D} {rs : List (List Int)} {vs : List V} {K : PySem.W.Frag}, rows? ds = some rs → Reps F α K ds vs → ds = rs.map Mi.row
  | [], rs, vs, K, e, h => by
    cases e
    rfl
  | .tup t :: ds, rs, vs, K, e, h => by
    rw [rows?, Option.bind_eq_some_iff] at e
    obtain ⟨is, e1, e⟩ := e
    rw [Option.map_eq_some_iff] at e
    obtain ⟨rs', e2, rfl⟩ := e
    obtain ⟨v, r, rfl, h1, h2⟩ := h
    obtain ⟨_, _, _, _, h3, _⟩ := h1
    rw [rows_reps e2 h2, (ints_reps e1 h3).2]
    rfl
  | .non :: ds, _, _, _, e, _ => by cases e
  | .bl _ :: ds, _, _, _, e, _ => by cases e
  | .str _ :: ds, _, _, _, e, _ => by cases e
  | .lst _ :: ds, _, _, _, e, _ => by cases e
  | .int _ :: ds, _, _, _, e, _ => by cases e
  | .scr _ :: ds, _, _, _, e, _ => by cases e
  | .ref _ :: ds, _, _, _, e, _ => by cases e
  | .rw _ :: ds, _, _, _, e, _ => by cases e
theorem pys_ints : ∀ ns : List Int, D.pys (ns.map D.int) = some (ns.map PyData.int)
  | [] => rfl
  | n :: ns => by
    rw [List.map_cons, D.pys, pys_ints ns]
    rfl
theorem py_row (r : List Int) : D.py (Mi.row r) = some (pRow r) := by
  show D.py (.tup _) = _
  rw [D.py, pys_ints]
  rfl
theorem pys_rows : ∀ rs : List (List Int), D.pys (rs.map Mi.row) = some (rs.map pRow)
  | [] => rfl
  | r :: rs => by
    rw [List.map_cons, D.pys, pys_rows rs, py_row]
    rfl
theorem map_int_inj : ∀ {a b : List Int}, a.map PyData.int = b.map PyData.int → a = b
  | [], [], _ => rfl
  | [], _ :: _, h => by cases h
  | _ :: _, [], h => by cases h
  | x :: xs, y :: ys, h => by
    rw [List.map_cons, List.map_cons] at h
    injection h with h1 h2
    injection h1 with h1
    rw [h1, map_int_inj h2]
theorem pRow_inj {a b : List Int} (h : pRow a = pRow b) : a = b := by
  unfold pRow at h
  injection h with h
  exact map_int_inj h
theorem foldMin_rows (r : List Int) : ∀ rs : List (List Int), PySem.W.minD (pRow r) (rs.map pRow) = pRow (rs.foldl (fun a b => if HT.lexLt b a then b else a) r) := by
  intro rs
  unfold PySem.W.minD
  induction rs generalizing r with
  | nil => rfl
  | cons s rs ih =>
    rw [List.map_cons, List.foldl_cons, List.foldl_cons, ← ih]
    have : PySem.W.dataLt (pRow s) (pRow r) = HT.lexLt s r := dataLt_rows s r
    rw [this]
    by_cases h : HT.lexLt s r = true
    · rw [if_pos h, if_pos h]
    · rw [if_neg h, if_neg h]
theorem foldMax_rows (r : List Int) : ∀ rs : List (List Int), PySem.W.maxD (pRow r) (rs.map pRow) = pRow (rs.foldl (fun a b => if HT.lexLt a b then b else a) r) := by
  intro rs
  unfold PySem.W.maxD
  induction rs generalizing r with
  | nil => rfl
  | cons s rs ih =>
    rw [List.map_cons, List.foldl_cons, List.foldl_cons, ← ih]
    have : PySem.W.dataLt (pRow r) (pRow s) = HT.lexLt r s := dataLt_rows r s
    rw [this]
    by_cases h : HT.lexLt r s = true
    · rw [if_pos h, if_pos h]
    · rw [if_neg h, if_neg h]
theorem mm_ints {f : PyData → List PyData → PyData} {ds : List D} {n m : Int} {ns : List Int} (c : CM W F α M H) {a : Addr} {vs : List V} (h1 : SqA W.K H a vs) (h2 : Reps F α W.K ds vs) (e : ints? ds = some (n :: ns)) (hf : f (.int n) (ns.map .int) = .int m) (q : PQ W false F α H Q (.int m) M) : rMMA W.K f [.ref a] H Q := by
  have i1 := (ints_reps e h2).1
  subst i1
  refine ⟨a, _, .int n, ns.map .int, rfl, h1, dpAll_ints (n :: ns), alikeAll_ints (n :: ns), ?_, fun i v e1 e2 => ?_⟩
  · have := PySem.W.depth_ints (n :: ns)
    rw [List.map_cons] at this
    omega
  · rw [hf] at e2
    have e2 : ((n :: ns).map PyData.int)[i]? = some (.int m) := e2
    rw [List.getElem?_map, Option.map_eq_some_iff] at e1 e2
    obtain ⟨k, e1, rfl⟩ := e1
    obtain ⟨k', e2, e3⟩ := e2
    rw [e1] at e2
    cases e2
    injection e3 with e3
    subst e3
    exact q.int c
theorem mm_rows {f : PyData → List PyData → PyData} {ds : List D} {n m : List Int} {ns : List (List Int)} (c : CM W F α M H) {a : Addr} {vs : List V} (h1 : SqA W.K H a vs) (h2 : Reps F α W.K ds vs) (e : rows? ds = some (n :: ns)) (hf : f (pRow n) (ns.map pRow) = pRow m) (q : PQ W false F α H Q (Mi.row m) M) : rMMA W.K f [.ref a] H Q := by
  have i1 := rows_reps e h2
  subst i1
  refine ⟨a, _, pRow n, ns.map pRow, rfl, h1, dps_of c.sub h2 (pys_rows (n :: ns)), alikeAll_rows (n :: ns), ?_, fun i v e1 e2 => ?_⟩
  · have := depthAll_rows (n :: ns)
    rw [List.map_cons] at this
    omega
  · rw [hf] at e2
    have e2 : ((n :: ns).map pRow)[i]? = some (pRow m) := e2
    rw [List.getElem?_map, Option.map_eq_some_iff] at e2
    obtain ⟨k', e5, e3⟩ := e2
    have e3 := pRow_inj e3
    subst e3
    obtain ⟨d, e4, r⟩ := h2.get' e1
    rw [List.getElem?_map, e5] at e4
    cases e4
    exact PQ.here c q (.inl r)
theorem s_min : SoundC W (rMMA W.K PySem.W.minD) (b1D .min) := fun F α M H x v Q d c r e q => by
  replace e : (items x).bind Mi.minD = some d := e
  rw [Option.bind_eq_some_iff] at e
  obtain ⟨ds, e1, e⟩ := e
  obtain ⟨a, vs, rfl, h1, h2, h3⟩ := items_cases c r e1
  unfold Mi.minD at e
  split at e
  · rename_i n ns hi
    cases e
    exact mm_ints c h1 h2 hi (PySem.W.minD_ints n ns) q
  · cases e
  · split at e
    · rename_i r rs hi
      cases e
      exact mm_rows c h1 h2 hi (foldMin_rows r rs) q
    · cases e
theorem s_max : SoundC W (rMMA W.K PySem.W.maxD) (b1D .max) := fun F α M H x v Q d c r e q => by
  replace e : (items x).bind Mi.maxD = some d := e
  rw [Option.bind_eq_some_iff] at e
  obtain ⟨ds, e1, e⟩ := e
  obtain ⟨a, vs, rfl, h1, h2, h3⟩ := items_cases c r e1
  unfold Mi.maxD at e
  split at e
  · rename_i n ns hi
    cases e
    exact mm_ints c h1 h2 hi (PySem.W.maxD_ints n ns) q
  · cases e
  · split at e
    · rename_i r rs hi
      cases e
      exact mm_rows c h1 h2 hi (foldMax_rows r rs) q
    · cases e
/-! ### all, any -/
theorem truths_ok : ∀ {ds : List D} {bs : List Bool}, truths ds = some bs → ∃ ps, D.pys ds = some ps ∧ PyData.plainAll ps = true ∧ (∀ x ∈ ps, x.fits63) ∧ ps.map PyData.truthy = bs
  | [], bs, e => by
    cases e
    exact ⟨[], rfl, by simp [PyData.plainAll], fun x hx => by simp at hx, rfl⟩
  | d :: ds, bs, e => by
    rw [truths, Option.bind_eq_some_iff] at e
    obtain ⟨k, e1, e⟩ := e
    rw [Option.map_eq_some_iff] at e
    obtain ⟨ks, e2, rfl⟩ := e
    obtain ⟨ps, h1, h2, h3, h4⟩ := truths_ok e2
    have : ∃ p, D.py d = some p ∧ p.plain = true ∧ p.fits63 ∧ p.truthy = k := by
      cases d with
      | bl cc =>
        cases e1
        exact ⟨.bool _, rfl, by simp [PyData.plain], trivial, rfl⟩
      | int i =>
        cases e1
        refine ⟨.int i, rfl, by simp [PyData.plain], trivial, ?_⟩
        show (i != 0) = _
        by_cases h : i = 0
        · subst h
          rfl
        · simp [h]
      | _ => cases e1
    obtain ⟨p, q1, q2, q3, q4⟩ := this
    refine ⟨p :: ps, by rw [D.pys, q1, h1]; rfl, by rw [PyData.plainAll, q2, h2]; rfl, fun x hx => ?_, by rw [List.map_cons, q4, h4]⟩
    rcases List.mem_cons.mp hx with rfl | hx
    · exact q3
    · exact h3 x hx
theorem s_all : SoundC W (rTrA W.K fun ps => ps.all PyData.truthy) (b1D .all) := fun F α M H x v Q d c r e q => by
  replace e : (items x).bind (fun xs => (truths xs).map fun bs => D.bl (bs.all id)) = some d := e
  rw [Option.bind_eq_some_iff] at e
  obtain ⟨ds, e1, e⟩ := e
  rw [Option.map_eq_some_iff] at e
  obtain ⟨bs, e2, rfl⟩ := e
  obtain ⟨a, vs, rfl, h1, h2, h3⟩ := items_cases c r e1
  obtain ⟨ps, q1, q2, q3, rfl⟩ := truths_ok e2
  refine ⟨a, vs, ps, rfl, h1, dps_of c.sub h2 q1, q2, q3, ?_⟩
  rw [List.all_map] at q
  exact q.bl c
theorem s_any : SoundC W (rTrA W.K fun ps => ps.any PyData.truthy) (b1D .any) := fun F α M H x v Q d c r e q => by
  replace e : (items x).bind (fun xs => (truths xs).map fun bs => D.bl (bs.any id)) = some d := e
  rw [Option.bind_eq_some_iff] at e
  obtain ⟨ds, e1, e⟩ := e
  rw [Option.map_eq_some_iff] at e
  obtain ⟨bs, e2, rfl⟩ := e
  obtain ⟨a, vs, rfl, h1, h2, h3⟩ := items_cases c r e1
  obtain ⟨ps, q1, q2, q3, rfl⟩ := truths_ok e2
  refine ⟨a, vs, ps, rfl, h1, dps_of c.sub h2 q1, q2, q3, ?_⟩
  rw [List.any_map] at q
  exact q.bl c
/-! ### sorted -/
theorem reps_zip {γ : Type} {f : γ → D} {g : γ → V} {K : PySem.W.Frag} : ∀ {l : List γ}, (∀ p ∈ l, Rep F α K (f p) (g p)) → Reps F α K (l.map f) (l.map g)
  | [], _ => rfl
  | p :: l, h => ⟨g p, l.map g, rfl, h p List.mem_cons_self, reps_zip fun q hq => h q (List.mem_cons_of_mem _ hq)⟩
theorem zip_of_reps {K : PySem.W.Frag} : ∀ {rs : List (List Int)} {vs : List V}, Reps F α K (rs.map Mi.row) vs → ∃ l : List (V × List Int), l.map Prod.fst = vs ∧ l.map Prod.snd = rs ∧ ∀ p ∈ l, Rep F α K (Mi.row p.2) p.1
  | [], vs, h => by
    have h : vs = [] := h
    subst h
    exact ⟨[], rfl, rfl, fun p hp => by simp at hp⟩
  | r :: rs, vs, h => by
    obtain ⟨v, us, rfl, h1, h2⟩ := h
    obtain ⟨l, e1, e2, h3⟩ := zip_of_reps h2
    refine ⟨(v, r) :: l, by rw [List.map_cons, e1], by rw [List.map_cons, e2], fun p hp => ?_⟩
    rcases List.mem_cons.mp hp with rfl | hp
    · exact h1
    · exact h3 p hp
theorem zip_map_same {γ : Type} (f : γ → V) (g : γ → PyData) : ∀ l : List γ, (l.map f).zip (l.map g) = l.map fun x => (f x, g x)
  | [] => rfl
  | x :: l => by rw [List.map_cons, List.map_cons, List.zip_cons_cons, zip_map_same f g l, List.map_cons]
theorem s_sorted (hW : W.Good) : SoundC W (rSoA W.K Prod.snd) (b1D .sorted) := fun F α M H x v Q d c r e q => by
  replace e : (items x).bind sortD = some d := e
  rw [Option.bind_eq_some_iff] at e
  obtain ⟨ds, e1, e⟩ := e
  obtain ⟨a, vs, rfl, h1, h2, h3⟩ := items_cases c r e1
  unfold sortD at e
  split at e
  · rename_i ns hi
    cases e
    obtain ⟨i1, i2⟩ := ints_reps hi h2
    subst i1
    subst i2
    refine ⟨a, _, ns.map .int, rfl, h1, dpAll_ints ns, fun d hd d' hd' => (alikeAll_ints ns).1 d hd d' hd', .inr fun p hp => ?_, fun p hp => ?_, fun p hp => ?_⟩
    · obtain ⟨i, _, rfl⟩ := List.mem_map.mp hp
      exact ⟨fun z => (by cases z), fun xs z => (by cases z)⟩
    · obtain ⟨i, _, rfl⟩ := List.mem_map.mp hp
      simp [PyData.depth]
    · have e2 : (((ns.map V.int).zip (ns.map PyData.int)).mergeSort (PySem.W.dataLe false Prod.snd)).map Prod.fst = (sortI ns).map V.int := by
        rw [zip_map_same]
        have := PySem.W.sort_maps (r := leI) (s := PySem.W.dataLe false (Prod.snd (α := V))) (fun n : Int => (V.int n, PyData.int n)) (l := ns) fun a _ b _ => by
          show decide (a ≤ b) = !PySem.W.dataLt (.int b) (.int a)
          rw [PySem.W.dataLt_int, PySem.W.not_lt_int]
        rw [← this, List.map_map]
        rfl
      rw [e2]
      refine PQ.lst hW c q ?_ ?_ hp
      · exact reps_zip (f := D.int) (g := V.int) fun p _ => rfl
      · rw [List.length_map] at h3 ⊢
        show (ns.mergeSort leI).length ≤ _
        rw [List.length_mergeSort]
        exact h3
  · rw [Option.bind_eq_some_iff] at e
    obtain ⟨rs, e2, e⟩ := e
    split at e
    · rename_i hne
      cases e
      have i1 := rows_reps e2 h2
      subst i1
      refine ⟨a, _, rs.map pRow, rfl, h1, dps_of c.sub h2 (pys_rows rs), fun d hd d' hd' => (alikeAll_rows rs).1 d hd d' hd', .inl fun p hp => ?_, fun p hp => ?_, fun p hp => ?_⟩
      · obtain ⟨i, hi, rfl⟩ := List.mem_map.mp hp
        have := List.all_eq_true.mp hne i hi
        cases i with
        | nil => simp at this
        | cons x r => exact ⟨.int x, r.map .int, rfl⟩
      · obtain ⟨i, _, rfl⟩ := List.mem_map.mp hp
        rw [depth_row]
        decide
      · obtain ⟨l, l1, l2, l3⟩ := zip_of_reps h2
        have e3 : ((vs.zip (rs.map pRow)).mergeSort (PySem.W.dataLe false Prod.snd)).map Prod.fst = (l.mergeSort fun p q => leR p.2 q.2).map Prod.fst := by
          rw [← l1, ← l2, List.map_map, zip_map_same]
          have := PySem.W.sort_maps (r := fun p q : V × List Int => leR p.2 q.2) (s := PySem.W.dataLe false (Prod.snd (α := V))) (fun x : V × List Int => (x.1, (pRow ∘ Prod.snd) x)) (l := l) fun a _ b _ => by
            show (!HT.lexLt b.2 a.2) = !PySem.W.dataLt (pRow b.2) (pRow a.2)
            rw [show PySem.W.dataLt (pRow b.2) (pRow a.2) = HT.lexLt b.2 a.2 from dataLt_rows _ _]
          rw [← this, List.map_map]
          rfl
        have e4 : (l.mergeSort fun p q => leR p.2 q.2).map Prod.snd = sortR rs := by
          rw [← l2]
          exact PySem.W.sort_maps (s := leR) Prod.snd fun a _ b _ => rfl
        rw [e3]
        refine PQ.lst hW c q ?_ ?_ hp
        · rw [← e4, List.map_map]
          exact reps_zip (f := Mi.row ∘ Prod.snd) (g := Prod.fst) fun p hp => l3 p (List.mem_mergeSort.mp hp)
        · rw [List.length_map] at h3 ⊢
          show (rs.mergeSort leR).length ≤ _
          rw [List.length_mergeSort]
          exact h3
    · cases e
end
end Mi
end
section
set_option Elab.async false
set_option autoImplicit false
set_option linter.all false
set_option maxRecDepth 100000
set_option maxHeartbeats 4000000
namespace Mi
open PySem PySem.Spec PyProof.Rows L2
section
variable {W : Wd} {XW : L2.WX} {b : Bool} {F F' F2 H H' H2 : Hp} {α α' α2 : List Addr} {M M' : Mst} {ρ : En} {σ : L2.St} {Q : VK} {d : D} {v : V} {X : Cx}
/-! ### len, list, tuple, int, str -/
theorem s_len : SoundC W (fun xs H Q => ∃ x n, xs = [x] ∧ LenV W.K x H n ∧ Q (.int n) H) (b1D .len) := fun F α M H x v Q d c r e q => by
  unfold b1D at e
  dsimp only at e
  split at e
  · cases e
    obtain ⟨p, vs, rfl, h1, h2, h3⟩ := r.list c
    exact ⟨.ref p, _, rfl, .inl ⟨vs, SqL.of h1, h2.length.symm⟩, q.int c⟩
  · cases e
    obtain ⟨p, vs, rfl, _, h1, h2, h3⟩ := r.tuple c
    exact ⟨.ref p, _, rfl, .inr ⟨vs, h1, h2.length.symm⟩, q.int c⟩
  · cases e
    obtain ⟨p, vs, rfl, h1, h2, h3⟩ := r.scr c
    exact ⟨.ref p, _, rfl, .inl ⟨vs, h1, h2.length.symm⟩, q.int c⟩
  · split at e
    · rename_i hl
      cases e
      cases r.str
      exact ⟨_, _, rfl, ⟨line_eq ▸ hl, rfl⟩, q.int c⟩
    · cases e
  · cases e
theorem s_list (hW : W.Good) : SoundC W (fun xs H Q => ∃ p ys, xs = [.ref p] ∧ (SqL W.K H p ys ∨ SqT W.K H p ys) ∧ ∀ l, H l = none → Q (.ref l) (upd H l (.lst ys))) (b1D .list) := fun F α M H x v Q d c r e q => by
  replace e : (items x).map D.lst = some d := e
  rw [Option.map_eq_some_iff] at e
  obtain ⟨ds, e1, rfl⟩ := e
  obtain ⟨a, vs, rfl, h1, h2, h3⟩ := items_cases c r e1
  exact ⟨a, vs, rfl, h1, fun l hl => PQ.lst hW c q h2 h3 hl⟩
theorem s_tuple (hW : W.Good) : SoundC W (fun xs H Q => ∃ p ys, xs = [.ref p] ∧ ((SqL W.K H p ys ∧ ∀ l, H l = none → Q (.ref l) (upd H l (.tup ys))) ∨ (SqT W.K H p ys ∧ Q (.ref p) H))) (b1D .tuple) := fun F α M H x v Q d c r e q => by
  replace e : (items x).map D.tup = some d := e
  rw [Option.map_eq_some_iff] at e
  obtain ⟨ds, e1, rfl⟩ := e
  unfold items at e1
  split at e1
  · cases e1
    obtain ⟨p, vs, rfl, h1, h2, h3⟩ := r.list c
    exact ⟨p, vs, rfl, .inl ⟨SqL.of h1, fun l hl => PQ.tup hW c q h2 h3 hl⟩⟩
  · cases e1
    obtain ⟨p, vs, rfl, f1, h1, h2, h3⟩ := r.tuple c
    exact ⟨p, vs, rfl, .inr ⟨h1, PQ.here c q (.inl ⟨p, vs, rfl, f1, h2, h3⟩)⟩⟩
  · cases e1
def rInt2 : List V → Hp → VK → Prop := fun xs H Q => ((∃ i, xs = [.int i] ∧ Q (.int i) H) ∨ ∃ k, xs = [.bl k] ∧ Q (.int (if k then 1 else 0)) H) ∨ ∃ a n, xs = [.str a] ∧ PySem.intText? a = some n ∧ a.length ≤ 640 ∧ Q (.int n) H
theorem c_int : CallR X (.type "int") rInt2 := CallR.or call_int1 call_int_str
theorem s_int : SoundC W rInt2 (b1D .int) := fun F α M H x v Q d c r e q => by
  unfold b1D at e
  dsimp only at e
  split at e
  · cases e
    cases r.int
    exact .inl (.inl ⟨_, rfl, q.int c⟩)
  · cases e
    cases r.bl
    exact .inl (.inr ⟨_, rfl, q.int c⟩)
  · rw [Option.bind_eq_some_iff] at e
    obtain ⟨n, e1, e⟩ := e
    split at e
    · rename_i hl
      cases e
      cases r.str
      exact .inr ⟨_, n, rfl, e1, hl, q.int c⟩
    · cases e
  · cases e
theorem s_str : SoundC W (fun xs H Q => ∃ i, xs = [.int i] ∧ i.natAbs.log2 < 1920 ∧ Q (.str (toString i)) H) (b1D .str) := fun F α M H x v Q d c r e q => by
  unfold b1D at e
  dsimp only at e
  split at e
  · split at e
    · rename_i hl
      cases e
      cases r.int
      exact ⟨_, rfl, hl, q.str c⟩
    · cases e
  · cases e
/-! ### min, max of two -/
def SoundC2 (W : Wd) (r : List V → Hp → VK → Prop) (f : D → D → Option D) : Prop := ∀ F α M H x y v u Q d, CM W F α M H → RepB W true F α H x v → RepB W true F α H y u → f x y = some d → PQ W false F α H Q d M → r [v, u] H Q
theorem tE_2c {r : List V → Hp → VK → Prop} {f : D → D → Option D} {ta tb : En → Mst → R D} (hr : SoundC2 W r f) : ∀ σ H Q, tE W XW false (t2 ta tb fun _ => f) σ H Q → tCB r (tCons (tE W XW true ta) (tCons (tE W XW true tb) tNil)) σ H Q := fun σ H Q ⟨F, α, ρ, M, c, s, h⟩ => by
  refine bindE c s h fun F1 α1 H1 M1 x v g1 c1 s1 r1 h1 => ?_
  refine bindE c1 s1 h1 fun F2 α2 H2 M2 y u g2 c2 s2 r2 h2 => ?_
  obtain ⟨d, e, q⟩ := post_of h2
  exact hr F2 α2 M2 H2 x y v u Q d c2 (r1.grow g2) r2 e q
theorem m_b2 {id : String} {r : List V → Hp → VK → Prop} {f : D → D → Option D} {x : Str} {e1 e2 : Expr} {p pos : Pos} {ta tb : En → Mst → R D} (hc : CallR X (.builtin id) r) (hr : SoundC2 W r f) (hg : Gl X x) (hm : X.mg x = none) (hv : bootBuiltins x = some (.builtin id)) (h1 : PE X e1 (tE W XW true ta)) (h2 : PE X e2 (tE W XW true tb)) (n1 : noStar e1 = true) (n2 : noStar e2 = true)
    (hn : x ≠ "__name__") (hd : (x == ("__debug__" : Str)) = false) : PE X (.Call (.Name x p) [e1, e2] [] pos) (tE W XW false (t2 ta tb fun _ => f)) :=
  PE.imp (pe_callB hc hg hm hv (pa_cons h1 (pa_cons h2 pa_nil (star_of n2)) (star_of n1)) hn hd (star_of n1) (backTo_star (by rw [List.all_cons, n2]; rfl))) (tE_2c hr)
theorem s_min2 : SoundC2 W (fun xs H Q => ∃ i j, xs = [.int i, .int j] ∧ Q (.int (if j < i then j else i)) H) (b2D .min) := fun F α M H x y v u Q d c r1 r2 e q => by
  unfold b2D at e
  split at e
  · cases e
    cases r1.int
    cases r2.int
    exact ⟨_, _, rfl, q.int c⟩
  · rename_i h
    cases h
  · cases e
theorem s_max2 : SoundC2 W (fun xs H Q => ∃ i j, xs = [.int i, .int j] ∧ Q (.int (if j > i then j else i)) H) (b2D .max) := fun F α M H x y v u Q d c r1 r2 e q => by
  unfold b2D at e
  split at e
  · rename_i h
    cases h
  · cases e
    cases r1.int
    cases r2.int
    exact ⟨_, _, rfl, q.int c⟩
  · cases e
/-! ### isinstance -/
def tyN : Ty → String
  | .int => "int" | .bool => "bool" | .str => "str" | .list => "list" | .tuple => "tuple"
def dTy : D → Option String
  | .non => some "NoneType" | .bl _ => some "bool" | .int _ => some "int" | .str _ => some "str" | .lst _ => some "list" | .scr _ => some "list" | .tup _ => some "tuple" | .ref _ => none | .rw _ => none
theorem tyX_of {x : D} {n : String} (c : CM W F α M H) (r : RepB W b F α H x v) (e : dTy x = some n) : TyX W.K H v (.type n) := by
  cases x with
  | non =>
    cases e
    cases r.non
    exact .base .non
  | bl k =>
    cases e
    cases r.bl
    exact .base (.bl k)
  | int i =>
    cases e
    cases r.int
    exact .base (.int i)
  | str s =>
    cases e
    cases r.str
    exact .base (.str s)
  | lst ds =>
    cases e
    obtain ⟨p, vs, rfl, h1, _⟩ := r.list c
    exact .base (.lst h1)
  | tup ds =>
    cases e
    obtain ⟨p, vs, rfl, f1, _⟩ := r.tuple c
    rcases f1 with f1 | ⟨_, its, n, f1⟩
    · exact .base (.tup (c.sub _ _ f1))
    · exact .fTuple (c.sub _ _ f1)
  | scr ds =>
    cases e
    obtain ⟨p, vs, rfl, h1, _⟩ := r.scr c
    rcases h1 with (h1 | ⟨o, h1⟩) | ⟨o, its, n, h1, h2, _⟩
    · exact .base (.lst h1)
    · exact .base (.frz h1)
    · exact .kList h1 h2
  | ref n => cases e
  | rw n => cases e
theorem kit_all : ∀ (t : Ty) (n : String) (k : Bool), n ∈ ["NoneType", "bool", "int", "str", "list", "tuple"] → decide (n = tyN t ∨ (n = "bool" ∧ t = .int)) = k → kitB n (tyN t) = some k := by
  intro t n k hn e
  simp only [List.mem_cons, List.not_mem_nil, or_false] at hn
  rcases hn with rfl | rfl | rfl | rfl | rfl | rfl <;> cases t <;> subst e <;> decide +kernel
theorem isi_of {t : Ty} {x : D} {k : Bool} (e : isiD t x = some k) : ∃ n, dTy x = some n ∧ n ∈ ["NoneType", "bool", "int", "str", "list", "tuple"] ∧ decide (n = tyN t ∨ (n = "bool" ∧ t = .int)) = k := by
  cases x <;> cases e <;> refine ⟨_, rfl, by simp, ?_⟩ <;> cases t <;> decide
theorem s_isi (t : Ty) : ∀ F α M H x v Q d, CM W F α M H → RepB W true F α H x v → (isiD t x).map D.bl = some d → PQ W false F α H Q d M → rIsi W.K [v, .ty (tyN t)] H Q := fun F α M H x v Q d c r e q => by
  obtain ⟨k, e1, rfl⟩ := map_some e
  obtain ⟨n, h1, h2, h3⟩ := isi_of e1
  exact ⟨v, .ty (tyN t), .type n, .type (tyN t), k, rfl, .ty _, tyX_of c r h1, kit_ty (kit_all t n k h2 h3), q.bl c⟩
theorem m_isi {t : Ty} {x y : Str} {e : Expr} {p p2 pos : Pos} {ta : En → Mst → R D} (hx : x = "isinstance") (hy : y = ((tyN t : String) : Str)) (hg : Gl X x) (hm : X.mg x = none) (hg2 : Gl X y) (hm2 : X.mg y = none) (hK : X.K = W.K) (he : PE X e (tE W XW true ta)) (hs : noStar e = true) :
    PE X (.Call (.Name x p) [e, .Name y p2] [] pos) (tE W XW false (t1 ta fun x => (isiD t x).map .bl)) := by
  have hb : bootBuiltins y = some (.type (tyN t)) := by
    subst hy
    cases t <;> decide +kernel
  have hyn : y ≠ "__name__" := by
    subst hy
    cases t <;> decide
  have hyd : (y == ("__debug__" : Str)) = false := by
    subst hy
    cases t <;> decide
  subst hx
  have h2 : PE X (.Name y p2) (tC (.ty (tyN t))) := pe_bltn hg2 hm2 hb rfl hyn hyd
  refine PE.imp (pe_callB (hK ▸ call_isi) hg hm boot_isinstance (pa_cons he (pa_cons h2 pa_nil rfl) (star_of hs)) (by decide) (by decide) (star_of hs) (by rfl)) fun σ H Q ⟨F, α, ρ, M, c, s, h⟩ => ?_
  refine bindE c s h fun F1 α1 H1 M1 x v g1 c1 s1 r1 h1 => ?_
  obtain ⟨d, e, q⟩ := post_of h1
  exact s_isi t F1 α1 M1 H1 x v Q d c1 r1 e q
/-! ### l.index(x) -/
theorem s_index : ∀ F α M H x y v u Q d, CM W F α M H → RepB W true F α H x v → RepB W true F α H y u → indexD x y = some d → PQ W false F α H Q d M → rIndexD W.K v [u] H Q := fun F α M H x y v u Q d c r1 r2 e q => by
  unfold indexD at e
  split at e
  · rename_i xs
    rw [Option.bind_eq_some_iff] at e
    obtain ⟨ps, e1, e⟩ := e
    rw [Option.bind_eq_some_iff] at e
    obtain ⟨p, e2, e⟩ := e
    split at e
    · rename_i hs
      rw [Bool.and_eq_true] at hs
      rw [Option.map_eq_some_iff] at e
      obtain ⟨j, e3, rfl⟩ := e
      obtain ⟨a, vs, rfl, h1, h2, h3⟩ := r1.list c
      obtain ⟨hj, h4, h5⟩ := List.findIdx?_eq_some_iff_getElem.mp e3
      refine ⟨a, u, p, ps, j, ps[j], rfl, rfl, r1.dp c (by rw [D.py, e1]; rfl), r2.dp c e2, hs.1, hs.2, List.getElem?_eq_getElem hj, h4, fun m z hm hz => ?_, q.int c⟩
      have hm' : m < ps.length := by omega
      rw [List.getElem?_eq_getElem hm'] at hz
      cases hz
      have := h5 m hm
      simpa using this
    · cases e
  · cases e
theorem m_index {o e : Expr} {apos cpos : Pos} {ta tb : En → Mst → R D} (hK : X.K = W.K) (hu : X.A.units + 65 < cLine) (ho : PE X o (tE W XW true ta)) (he : PE X e (tE W XW true tb)) (hs : noStar e = true) (hbase : attributeBase o "index" X.env (eval o X.env) = eval o X.env) (hline : (apos.endLine == cpos.line) = true) :
    PE X (.Call (.Attribute o "index" apos) [e] [] cpos) (tE W XW false fun ρ M => (ta ρ M).bind fun x M => if isLst x then (tb ρ M).bind fun y M => R.of (indexD x y) M else .stuck) := by
  have hst : starEach [e] X.env = (false, eval e X.env) :: starEach [] X.env := star_of hs
  refine PE.imp (pe_bm PySem.F.plainAttrs_list PySem.F.slot_list_index PySem.F.type_list_index (hK ▸ mt_indexD hu) ho (pa_cons he pa_nil hst) hbase (by rw [hst]; rfl) hline hst rfl) fun σ H Q ⟨F, α, ρ, M, c, s, h⟩ => ?_
  refine bindE c s h fun F1 α1 H1 M1 x v g1 c1 s1 r1 h1 => ?_
  split at h1
  · rename_i hx
    obtain ⟨ds, rfl⟩ : ∃ ds, x = .lst ds := by
      cases x with
      | lst ds => exact ⟨ds, rfl⟩
      | _ => cases hx
    obtain ⟨p, vs, rfl, h2, h3, h4⟩ := r1.list c1
    refine ⟨.inl ⟨rfl, vs, SqL.of h2⟩, ?_⟩
    refine bindE c1 s1 h1 fun F2 α2 H2 M2 y u g2 c2 s2 r2 h2 => ?_
    obtain ⟨d, e, q⟩ := post_of h2
    exact s_index F2 α2 M2 H2 _ y _ u Q d c2 (r1.grow g2) r2 e q
  · exact h1.elim
/-! ### slices -/
def toO (W : Wd) (X : L2.WX) (t : En → Mst → R (Option Int)) : TO := fun σ H Q => ∃ F α ρ M, CM W F α M H ∧ SL W F α H ρ σ ∧ (match t ρ M with
  | .ok o M' => ∀ F' α' H', Grow O0 F α H F' α' H' → CM W F' α' M' H' → Q o H'
  | .exc c M' => PX W X F α σ H c M'
  | .stuck => False)
theorem PO.imp {e : Option Expr} {t t' : TO} (h : PO X e t) (k : ∀ σ H Q, t' σ H Q → t σ H Q) : PO X e t' := ⟨fun pins s σ H Q I q => h.run pins s σ H Q I (k σ H Q q)⟩
theorem m_no : PO X none (toO W XW fun _ M => .ok none M) := PO.imp po_none fun σ H Q ⟨F, α, ρ, M, c, s, h⟩ => h F α H Grow.refl c
theorem m_some {e : Expr} {ta : En → Mst → R D} (he : PE X e (tE W XW true ta)) : PO X (some e) (toO W XW fun ρ M => (ta ρ M).bind fun x M => R.of ((intOf? x).map some) M) := PO.imp (po_some he) fun σ H Q ⟨F, α, ρ, M, c, s, h⟩ => by
  refine ⟨F, α, ρ, M, c, s, ?_⟩
  dsimp only at h
  cases e : ta ρ M with
  | ok x M1 =>
    rw [e] at h
    intro F1 α1 H1 v g1 c1 r1
    cases x with
    | int i => exact ⟨i, r1.int, h F1 α1 H1 g1 c1⟩
    | _ => exact h.elim
  | exc n M1 =>
    rw [e] at h
    exact h
  | stuck =>
    rw [e] at h
    exact h
theorem bindO {to : En → Mst → R (Option Int)} {f : Option Int → Mst → R D} {K : Option Int → Hp → Prop} (c : CM W F α M H) (s : SL W F α H ρ σ) (h : post W XW b F α σ H Q ((to ρ M).bind f))
    (k : ∀ F1 α1 H1 M1 o, Grow O0 F α H F1 α1 H1 → CM W F1 α1 M1 H1 → SL W F1 α1 H1 ρ σ → post W XW b F1 α1 σ H1 Q (f o M1) → K o H1) : toO W XW to σ H K := by
  refine ⟨F, α, ρ, M, c, s, ?_⟩
  cases e : to ρ M with
  | ok x M1 =>
    rw [e] at h
    exact fun F1 α1 H1 g c1 => k F1 α1 H1 M1 x g c1 (s.grow g) (h.grow g)
  | exc n M1 =>
    rw [e] at h
    exact h
  | stuck =>
    rw [e] at h
    exact h
theorem Reps.cut {K : PySem.W.Frag} {ds : List D} {vs : List V} (h : Reps F α K ds vs) (lo hi : Option Int) : Reps F α K (cutL ds lo hi) (cutV vs lo hi) := by
  unfold cutL cutV
  rw [h.length]
  exact Reps.take _ (h.drop _)
theorem cutL_le {γ : Type} (xs : List γ) (lo hi : Option Int) : (cutL xs lo hi).length ≤ xs.length := by
  unfold cutL
  rw [List.length_take, List.length_drop]
  omega
def rSlAll (K : PySem.W.Frag) : V → Option Int → Option Int → Hp → VK → Prop := fun x lo hi H Q => rSlL K x lo hi H Q ∨ rSlA K x lo hi H Q ∨ ∃ z : Str, x = .str z ∧ z.length ≤ sizeLine ∧ Q (.str (cutS z lo hi)) H
theorem o_slc : L2.SlR X (rSlAll X.K) := L2.SlR.or sl_list (L2.SlR.or sl_tupA sl_str)
theorem cut_whole {γ : Type} {xs : List γ} {lo hi : Option Int} (h : HT.sIx xs.length 0 lo = 0 ∧ HT.sIx xs.length xs.length hi = xs.length) : cutL xs lo hi = xs := by
  unfold cutL
  rw [h.1, h.2]
  simp
theorem s_slc (hW : W.Good) : ∀ F α M H x v lo hi Q d, CM W F α M H → RepB W true F α H x v → slcD x lo hi = some d → PQ W false F α H Q d M → rSlAll W.K v lo hi H Q := fun F α M H x v lo hi Q d c r e q => by
  unfold slcD at e
  split at e
  · rename_i xs
    cases e
    obtain ⟨p, vs, rfl, h1, h2, h3⟩ := r.list c
    exact .inl ⟨p, vs, rfl, SqL.of h1, fun a ha => PQ.lst hW c q (h2.cut lo hi) (Nat.le_trans (cutL_le _ _ _) h3) ha⟩
  · rename_i xs
    cases e
    obtain ⟨p, vs, rfl, f1, h1, h2, h3⟩ := r.tuple c
    refine .inr (.inl ⟨p, vs, rfl, h1, fun z => ?_, fun _ a ha => PQ.tup hW c q (h2.cut lo hi) (Nat.le_trans (cutL_le _ _ _) h3) ha⟩)
    rw [h2.length] at z
    rw [cut_whole z] at q
    exact PQ.here c q (.inl ⟨p, vs, rfl, f1, h2, h3⟩)
  · rename_i s
    split at e
    · rename_i hl
      cases e
      cases r.str
      exact .inr (.inr ⟨s, rfl, line_eq ▸ hl, q.str c⟩)
    · cases e
  · cases e
theorem m_slc (hW : W.Good) (hK : X.K = W.K) {e : Expr} {lo hi : Option Expr} {p2 pos : Pos} {ta : En → Mst → R D} {tl th : En → Mst → R (Option Int)} (he : PE X e (tE W XW true ta)) (hl : PO X lo (toO W XW tl)) (hh : PO X hi (toO W XW th)) :
    PE X (.Subscript e (.Slice lo hi none p2) pos) (tE W XW false fun ρ M => (ta ρ M).bind fun x M => (tl ρ M).bind fun l M => (th ρ M).bind fun h M => R.of (slcD x l h) M) :=
  PE.imp (pe_slice (hK ▸ o_slc) he hl hh) fun σ H Q ⟨F, α, ρ, M, c, s, h⟩ => by
    refine bindE c s h fun F1 α1 H1 M1 x v g1 c1 s1 r1 h1 => ?_
    refine bindO c1 s1 h1 fun F2 α2 H2 M2 l g2 c2 s2 h2 => ?_
    refine bindO c2 s2 h2 fun F3 α3 H3 M3 u g3 c3 s3 h3 => ?_
    obtain ⟨d, e, q⟩ := post_of h3
    exact s_slc hW F3 α3 M3 H3 x v l u Q d c3 ((r1.grow g2).grow g3) e q
theorem m_rev (hW : W.Good) (hK : X.K = W.K) {e : Expr} {k : Nat} {p1 p2 p3 pos : Pos} {ta : En → Mst → R D} (he : PE X e (tE W XW true ta)) :
    PE X (.Subscript e (.Slice none none (some (.UnaryOp .USub (.Constant (.int 1) k p1) p2)) p3) pos) (tE W XW false fun ρ M => (ta ρ M).bind fun x M => match x with
    | .lst xs => .ok (.lst xs.reverse) M
    | _ => .stuck) := PE.imp (pe_revL he) fun σ H Q ⟨F, α, ρ, M, c, s, h⟩ => by
  refine bindE c s h fun F1 α1 H1 M1 x v g1 c1 s1 r1 h1 => ?_
  cases x with
  | lst ds =>
    obtain ⟨p, vs, rfl, h2, h3, h4⟩ := r1.list c1
    exact ⟨p, vs, rfl, SqL.of h2, fun a ha => PQ.lst hW c1 h1 h3.reverse (by rw [List.length_reverse]; exact h4) ha⟩
  | _ => exact h1.elim
/-! ### a <= b <= c -/
theorem boolD_cases {o : Option Bool} {f : Bool → Mst → R D} (h : post W XW b F α σ H Q ((R.of o M).bind f)) : ∃ k, o = some k ∧ post W XW b F α σ H Q (f k M) := by
  cases o with
  | none => exact h.elim
  | some k => exact ⟨k, rfl, h⟩
def dChn (f f' : D → D → Option Bool) (ta tb tc : En → Mst → R D) : En → Mst → R D := fun ρ M => (ta ρ M).bind fun x M => (tb ρ M).bind fun y M => (R.of (f x y) M).bind fun k M => if k then (tc ρ M).bind fun z M => R.of ((f' y z).map .bl) M else .ok (.bl false) M
theorem chn_imp {r r' : R2} {f f' : D → D → Option Bool} {ta tb tc : En → Mst → R D} (hr : Sound2 W r (cmpF f)) (hr' : Sound2 W r' (cmpF f')) {σ : L2.St} {H : Hp} {Q : VK} : tE W XW false (dChn f f' ta tb tc) σ H Q → tChain r r' (tE W XW true ta) (tE W XW true tb) (tE W XW true tc) σ H Q := fun ⟨F, α, ρ, M, c, s, h⟩ => by
  refine bindE c s h fun F1 α1 H1 M1 x v g1 c1 s1 r1 h1 => ?_
  refine bindE c1 s1 h1 fun F2 α2 H2 M2 y u g2 c2 s2 r2 h2 => ?_
  obtain ⟨k, e, h2⟩ := boolD_cases h2
  refine hr F2 α2 M2 H2 x y v u _ (.bl k) c2 (r1.grow g2) r2 (by show (f x y).map D.bl = _; rw [e]; rfl) fun F3 α3 H3 z g3 c3 r3 => ?_
  refine ⟨k, r3.bl, ?_⟩
  have h3 := post.grow g3 h2
  cases k with
  | true =>
    refine bindE c3 ((s2.grow g3)) h3 fun F4 α4 H4 M4 z w g4 c4 s4 r4 h4 => ?_
    obtain ⟨d, e, q⟩ := post_of h4
    exact hr' F4 α4 M4 H4 y z u w Q d c4 ((r2.grow g3).grow g4) r4 e q
  | false => exact PQ.bl c3 h3
theorem m_chn {op op' : CmpOp} {r r' : R2} {f f' : D → D → Option Bool} {e1 e2 e3 : Expr} {pos : Pos} {ta tb tc : En → Mst → R D} (ho : OpR X (compareOp op) r) (ho' : OpR X (compareOp op') r') (hr : Sound2 W r (cmpF f)) (hr' : Sound2 W r' (cmpF f'))
    (ha : PE X e1 (tE W XW true ta)) (hb : PE X e2 (tE W XW true tb)) (hc : PE X e3 (tE W XW true tc)) (hm : lastMarks [op, op'] [e2, e3] = false) :
    PE X (.Compare e1 [op, op'] [e2, e3] pos) (tE W XW false (dChn f f' ta tb tc)) := PE.imp (pe_chain ho ho' ha hb hc hm) fun _ _ _ => chn_imp hr hr'
theorem m_testChn {op op' : CmpOp} {r r' : R2} {f f' : D → D → Option Bool} {e1 e2 e3 : Expr} {pos : Pos} {ta tb tc : En → Mst → R D} (ho : OpR X (compareOp op) r) (ho' : OpR X (compareOp op') r') (hr : Sound2 W r (cmpF f)) (hr' : Sound2 W r' (cmpF f'))
    (ha : PE X e1 (tE W XW true ta)) (hb : PE X e2 (tE W XW true tb)) (hc : PE X e3 (tE W XW true tc)) (hm : lastMarks [op, op'] [e2, e3] = false) :
    PT X (.Compare e1 [op, op'] [e2, e3] pos) (tT W XW (dChn f f' ta tb tc)) := PT.imp (pt_chain ho ho' ha hb hc hm) fun σ H Q h => chn_imp hr hr' (tT_val σ H Q h)
/-! ### calls of defs -/
def postC (W : Wd) (F : Hp) (α : List Addr) (H : Hp) (Q : VK) (E : XK) : R D → Prop
  | .ok d M' => PQ W false F α H Q d M'
  | .exc c M' => ∀ F' α' H', Grow O0 F α H F' α' H' → CM W F' α' M' H' → E (.ref (W.ca c)) none H'
  | .stuck => False
/-- what a def of the text promises -/
def spOf (W : Wd) (ar : Nat) (f : List D → Mst → R D) : Sp := fun vs H Q E => vs.length = ar ∧ ∃ F α M ds, CM W F α M H ∧ Reps F α W.K ds vs ∧ postC W F α H Q E (f ds M)
theorem m_call {k ar : Nat} {f : Addr} {fd : FuncData} {ps : List Str} {g : List D → Mst → R D} {x : Str} {e : Expr} {es : List Expr} {p pos : Pos} {ts : En → Mst → R (List D)} (F : FnOk X.prog X.w X.K X.mg X.base (L2N.CX X.prog X.w) k f fd ps (spOf W ar g)) (hr : Room k X.A) (hg : Gl X x) (hm : X.mg x = some (.ref f)) (hk : PySem.W.keepIn X.K (.ref f) = true) (hb : Binds X.K fd ps [])
    (tk : L2N.Takes X XW) (ha : PA X (e :: es) (tL W XW ts)) (hdb : (x == ("__debug__" : Str)) = false) (hs : (e :: es).all noStar = true) (hn : ∀ ρ M ds M', ts ρ M = .ok ds M' → ds.length = ar) :
    PE X (.Call (.Name x p) (e :: es) [] pos) (tE W XW false fun ρ M => (ts ρ M).bind fun ds M => g ds M) := by
  have hs' : noStar e = true ∧ es.all noStar = true := by
    rw [List.all_cons, Bool.and_eq_true] at hs
    exact hs
  refine PE.imp (pe_callSD F hr hg hm hk hb .nil (E := fun σ => WE XW σ) (fun σ => L2N.passAt tk σ) ha hdb (star_of hs'.1) (backTo_star hs'.2)) fun σ H Q ⟨F, α, ρ, M, c, s, h⟩ => ?_
  refine ⟨F, α, ρ, M, c, s, ?_⟩
  dsimp only at h
  cases e : ts ρ M with
  | ok ds M1 =>
    rw [e] at h
    intro F1 α1 H1 vs g1 c1 r1
    refine ⟨by rw [List.append_nil, r1.length]; exact hn _ _ _ _ e, F1, α1, M1, ds, c1, by rw [List.append_nil]; exact r1, ?_⟩
    replace h : post W XW false F α σ H Q (g ds M1) := h
    have h := post.grow g1 h
    cases e2 : g ds M1 with
    | ok d M2 =>
      rw [e2] at h
      exact h
    | exc n M2 =>
      rw [e2] at h
      exact h
    | stuck =>
      rw [e2] at h
      exact h
  | exc n M1 =>
    rw [e] at h
    exact h
  | stuck =>
    rw [e] at h
    exact h
end
end Mi
end
section
set_option Elab.async false
set_option autoImplicit false
set_option linter.all false
set_option maxRecDepth 100000
set_option maxHeartbeats 4000000
namespace Mi
open PySem PySem.Spec PyProof.Rows L2
/-! ### zip of lists and tuples, mixed -/
def SqX (K : PySem.W.Frag) : Bool → Hp → Addr → List V → Prop
  | false => SqL K
  | true => SqT K
def ItX : Bool → Heap → Addr → Addr → Nat → Prop
  | false, h, it, a, i => h.IsListIter it a i
  | true, h, it, a, i => h.IsTupleIter it a i
def SrX : Bool → Heap → Addr → Array Value → Prop
  | false, h, a, xs => h.IsList a xs
  | true, h, a, xs => h.IsTuple a xs
theorem ItX.at {k : Bool} {h h' : Heap} {it a : Addr} {i : Nat} (x : ItX k h it a i) (e : ∀ o, h.get? it = some o → h'.get? it = some o) : ItX k h' it a i := by
  cases k with
  | false => exact Heap.IsListIter.at x e
  | true => exact Heap.IsTupleIter.at x e
theorem ItX.obj {k : Bool} {h : Heap} {it a : Addr} {i : Nat} (x : ItX k h it a i) : ∃ o, h.get? it = some o ∧ ∀ v, o.data ≠ .cell v := by
  cases k with
  | false =>
    obtain ⟨o, e, c, d⟩ := x
    exact ⟨o, e, fun v z => by rw [d] at z; cases z⟩
  | true =>
    obtain ⟨o, e, c, d⟩ := x
    exact ⟨o, e, fun v z => by rw [d] at z; cases z⟩
theorem drawX {prog : Program} {w : World} {A : Around} (hh : A.handled = none) (k : Bool) (it a : Addr) (hne : a ≠ it) (its : Array Value) :
    Draws prog w A it [it, a] its.size (fun i v => its[i]? = some v) (fun i h => ItX k h it a i ∧ SrX k h a its) := by
  cases k with
  | false => exact Draws.list hh it a hne its
  | true => exact Draws.tuple hh it a hne its
def obX (k : Bool) (a : Addr) : Obj := { cls := .type (if k then "tuple_iterator" else "list_iterator"), data := .fields #[.ref a, .int 0 0] }
theorem beginsX (k : Bool) (a : Addr) (its : Array Value) : Begins (.ref a) (obX k a) fun h => SrX k h a its := by
  cases k with
  | false => exact begins_list a its
  | true => exact begins_tuple a its
theorem itX_of {k : Bool} {h : Heap} {it a : Addr} (e : h.get? it = some (obX k a)) : ItX k h it a 0 := by
  cases k with
  | false => exact ⟨_, e, rfl, rfl⟩
  | true => exact ⟨_, e, rfl, rfl⟩
theorem sqx_get {X : Cx} {pins : List (Addr × Obj)} {σ : L2.St} {H : Hp} {s : Shared} (I : Inv X pins σ H s) {k : Bool} {a : Addr} {xs : List V} (h : SqX X.K k H a xs) : ∃ its : List Value, Vals xs its ∧ SrX k s.heap a its.toArray ∧ a < s.heap.objs.size := by
  cases k with
  | false =>
    obtain ⟨its, rv, p, _⟩ := I.list h
    exact ⟨its, rv, p.isList, p.lt⟩
  | true =>
    obtain ⟨its, rv, p, _⟩ := I.tuple h
    obtain ⟨o1, ho1, _⟩ := id p
    exact ⟨its, rv, p, Heap.lt_size ho1⟩
theorem sepOf {z TI TO i1 i2 a b : Addr} (D : ZipApart z TI TO i1 i2 a b) : ZipSep2 z TI TO i1 i2 [i1, a] [i2, b] where
  TIz := D.TIz
  TOz := D.TOz
  TITO := D.TITO
  TIi1 := D.TIi1
  mem1 := by simp
  zf1 := by simp [D.i1z.symm, D.l1z.symm]
  Tf1 := by simp [D.TOi1, D.l1TO.symm]
  TIi2 := D.TIi2
  mem2 := by simp
  zf2 := by simp [D.i2z.symm, D.l2z.symm]
  Tf2 := by simp [D.TOi2, D.l2TO.symm]
  sep1_2 := by simp [D.i12, D.l2i1.symm]
  sep2_1 := by simp [D.i12.symm, D.l1i2.symm]
/-- xs at a, ys at b, as long as they stand there -/
def ItzX (K : PySem.W.Frag) (k l : Bool) (a b : Addr) (xs ys : List V) : It :=
  ⟨fun i H => SqX K k H a xs ∧ SqX K l H b ys ∧ i < xs.length ∧ i < ys.length,
    fun i H v H' => ∃ T x y, v = .ref T ∧ H T = none ∧ H' = upd H T (.tup [x, y]) ∧ xs[i]? = some x ∧ ys[i]? = some y,
    fun i H => SqX K k H a xs ∧ SqX K l H b ys ∧ (xs.length ≤ i ∨ ys.length ≤ i)⟩
theorem turn_zipX {P : Program} {w : World} {K : PySem.W.Frag} {elts : List Expr} {kk : Nat} {tpos : Pos} {k l : Bool} {xs ys : List V} {a b z TI TO i1 i2 : Addr} (D : ZipApart z TI TO i1 i2 a b) :
    Turn P w K (.Tuple elts kk tpos) (ItzX K k l a b xs ys) [z, TI, TO, i1, i2] z (fun i h => IsZip h z TI TO .none ∧ IsPair h TI (.ref i1) (.ref i2) ∧ (∃ x y, IsPair h TO x y) ∧ ItX k h i1 a i ∧ ItX l h i2 b i ∧ i ≤ xs.length ∧ i ≤ ys.length) where
  mem := by simp
  obj := fun i h st c hc => by
    obtain ⟨hz, hTI, ⟨x, y, hTO⟩, h1, h2, _⟩ := st
    have e' : c = z ∨ c = TI ∨ c = TO ∨ c = i1 ∨ c = i2 := by simpa using hc
    rcases e' with q | q | q | q | q
    · rw [q]; exact ⟨_, hz, fun v q => nomatch q⟩
    · rw [q]; exact ⟨_, hTI, fun v q => nomatch q⟩
    · rw [q]; exact ⟨_, hTO, fun v q => nomatch q⟩
    · rw [q]; exact h1.obj
    · rw [q]; exact h2.obj
  keep := fun i h h' st k => by
    obtain ⟨hz, hTI, ⟨x, y, hTO⟩, h1, h2, h3⟩ := st
    exact ⟨k z (by simp) _ hz, k TI (by simp) _ hTI, ⟨x, y, k TO (by simp) _ hTO⟩, h1.at fun o q => k i1 (by simp) o q, h2.at fun o q => k i2 (by simp) o q, h3⟩
  item := by
    intro X hP hw hK hc i pins s σ H E I hf st hg
    subst hP hw hK
    obtain ⟨hz, hTI, ⟨x0, y0, hTO⟩, h1, h2, _, _⟩ := st
    obtain ⟨hqx, hqy, hx, hy⟩ := hg
    obtain ⟨its, rv, p, _⟩ := sqx_get I hqx
    obtain ⟨its2, rv2, p2, _⟩ := sqx_get I hqy
    have l1 := rv.length
    have l2 := rv2.length
    have hzl : z < s.heap.objs.size := Heap.lt_size hz
    refine wpAny_pyNext_zipD2_item (sepOf D) (drawX (A := X.A.in1) (show X.A.in1.handled = none from I.ok.hd hc) k i1 a D.l1i1 its.toArray) (drawX (A := X.A.in1) (show X.A.in1.handled = none from I.ok.hd hc) l i2 b D.l2i2 its2.toArray) hz hTI hTO ⟨h1, p⟩ ⟨h2, p2⟩ (by simp; omega) (by simp; omega) fun u u2 h' tk hu hu2 z' TO' h1' h2' hT hsz hk => ?_
    obtain ⟨x, ex⟩ : ∃ x, xs[i]? = some x := ⟨_, List.getElem?_eq_getElem hx⟩
    obtain ⟨y, ey⟩ : ∃ y, ys[i]? = some y := ⟨_, List.getElem?_eq_getElem hy⟩
    obtain ⟨w1, hw1, ru⟩ := rv.get ex
    obtain ⟨w2, hw2, ru2⟩ := rv2.get ey
    have eu : u = w1 := by
      have hu : its.toArray[i]? = some u := hu
      rw [List.getElem?_toArray] at hu
      rw [hw1] at hu
      exact (Option.some.inj hu).symm
    have eu2 : u2 = w2 := by
      have hu2 : its2.toArray[i]? = some u2 := hu2
      rw [List.getElem?_toArray] at hu2
      rw [hw2] at hu2
      exact (Option.some.inj hu2).symm
    subst eu eu2
    refine ⟨_, rfl, wpAny_letOwnedTupleGo_zip (s := { s with heap := h', toks := tk }) z' fun h'' z'' sb => ?_⟩
    have hT2 : h''.get? s.heap.objs.size = some { cls := .type "tuple", data := .seq #[u, u2] } := (sb.2 _ (Nat.ne_of_gt hzl)).trans hT
    have new : ObjOk X.prog X.w (upd H s.heap.objs.size (.tup [x, y])) h'' s.heap.objs.size (.tup [x, y]) :=
      ⟨by show 2 ≤ sizeLine; decide, [u, u2], .cons ru (.cons ru2 .nil), ⟨_, hT2, rfl, _, rfl⟩⟩
    have I1 : Inv X pins σ (upd H s.heap.objs.size (.tup [x, y])) { s with heap := h'', toks := tk } :=
      I.turnedNew (t' := tk) (ch := [z, TI, TO, i1, i2]) (fun c o hb q => (sb.2 c (fun q' => hb (by simp [q']))).trans (hk c o (fun q' => hb (by simp [q'])) (fun q' => hb (by simp [q'])) (fun q' => hb (by simp [q'])) (fun q' => hb (by simp [q'])) q)) hf (Nat.le_refl _) new
    refine ⟨.ref s.heap.objs.size, _, I1, rfl, ⟨_, x, y, rfl, I.hok.fresh (Nat.le_refl _), rfl, ex, ey⟩, ⟨z'', ?_, ⟨u, u2, ?_⟩, ?_, ?_, hx, hy⟩, fun c hcm => ?_⟩
    · exact (sb.2 _ D.TIz).trans (hk _ _ D.TIz D.TITO D.TIi1 D.TIi2 hTI)
    · exact (sb.2 _ D.TOz).trans TO'
    · exact h1'.1.at fun o q => (sb.2 _ D.i1z).trans q
    · exact h2'.1.at fun o q => (sb.2 _ D.i2z).trans q
    · have hlt : c < s.heap.objs.size := by
        have e' : c = z ∨ c = TI ∨ c = TO ∨ c = i1 ∨ c = i2 := by simpa using hcm
        rcases e' with q | q | q | q | q
        · rw [q]; exact hzl
        · rw [q]; exact Heap.lt_size hTI
        · rw [q]; exact Heap.lt_size hTO
        · rw [q]; obtain ⟨_, e1, _⟩ := h1.obj; exact Heap.lt_size e1
        · rw [q]; obtain ⟨_, e2, _⟩ := h2.obj; exact Heap.lt_size e2
      rw [upd_ne (Nat.ne_of_lt hlt)]
      exact (hf c hcm).1
  done := by
    intro X hP hw hK hc i pins s σ H E I hf st hg
    subst hP hw hK
    obtain ⟨hz, hTI, ⟨x0, y0, hTO⟩, h1, h2, le1, le2⟩ := st
    obtain ⟨hqx, hqy, hend⟩ := hg
    obtain ⟨its, rv, p, _⟩ := sqx_get I hqx
    obtain ⟨its2, rv2, p2, _⟩ := sqx_get I hqy
    have l1 := rv.length
    have l2 := rv2.length
    exact wpAny_pyNext_zipD2_end (sepOf D) (drawX (A := X.A.in1) (show X.A.in1.handled = none from I.ok.hd hc) k i1 a D.l1i1 its.toArray) (drawX (A := X.A.in1) (show X.A.in1.handled = none from I.ok.hd hc) l i2 b D.l2i2 its2.toArray) hz hTI hTO ⟨h1, p⟩ ⟨h2, p2⟩ (by simp; omega) (by simp; omega) (by simp; omega) fun h' tk hk => ⟨rfl, I.turnedL (t' := tk) (ch := [z, TI, TO, i1, i2]) (fun c o hb q =>
      hk c o (fun q' => hb (by simp [q'])) (fun q' => hb (by simp [q'])) (fun q' => hb (by simp [q'])) (fun q' => hb (by simp [q'])) q) hf⟩
  self := fun A i s Q E st h => wpAny_pyIter_zip st.1 h
def iZipX (K : PySem.W.Frag) (ta : TA) : TI := fun σ H R => ta σ H fun vs H1 => ∃ k l a b xs ys, vs = [.ref a, .ref b] ∧ SqX K k H1 a xs ∧ SqX K l H1 b ys ∧ R (ItzX K k l a b xs ys) H1
theorem pi_zipX {X : Cx} {e e2 : Expr} {ta : TA} {p pos tpos : Pos} {elts : List Expr} {kk : Nat} (hg : Gl X "zip") (hm : X.mg "zip" = none) (ha : PA X [e, e2] ta)
    (hs : starEach [e, e2] X.env = (false, eval e X.env) :: starEach [e2] X.env) (hpl : (backTo pos (starEach [e2] X.env)).any (·.1) = false) :
    PI X (.Tuple elts kk tpos) (.Call (.Name "zip" p) [e, e2] [] pos) (iZipX X.K ta) := by
  refine ⟨fun pins s σ H R I h => ?_⟩
  refine Call_ (ld_blt I hg hm PyProof.Rows.boot_zip (PyProof.Rows.callWith_type1 (thn (ha.run pos pins s σ H _ I h) fun us s1 ⟨vs, H1, I1, r1, q1⟩ => ?_) hs hpl))
  obtain ⟨k, l, a, b, xs, ys, ex, hqx, hqy, q⟩ := q1
  subst ex
  cases r1 with
  | cons r rr =>
    cases rr with
    | cons r' rr =>
      cases rr
      cases r
      cases r'
      have fresh5 : ∀ c, c ∈ [s1.heap.objs.size + 4, s1.heap.objs.size + 2, s1.heap.objs.size + 3, s1.heap.objs.size, s1.heap.objs.size + 1] → FpOk X pins H1 c := fun c hcm => by
        have e' : c = s1.heap.objs.size + 4 ∨ c = s1.heap.objs.size + 2 ∨ c = s1.heap.objs.size + 3 ∨ c = s1.heap.objs.size ∨ c = s1.heap.objs.size + 1 := by simpa using hcm
        have hle : s1.heap.objs.size ≤ c := by
          rcases e' with z | z | z | z | z
          · rw [z]; exact Nat.le_add_right _ _
          · rw [z]; exact Nat.le_add_right _ _
          · rw [z]; exact Nat.le_add_right _ _
          · rw [z]; exact Nat.le_refl _
          · rw [z]; exact Nat.le_add_right _ _
        exact I1.fpOk hle (I1.hok.fresh hle)
      obtain ⟨its, rv, p1, la⟩ := sqx_get I1 hqx
      obtain ⟨its2, rv2, p2, lb⟩ := sqx_get I1 hqy
      refine zip_begins2 (beginsX k a its.toArray) (beginsX l b its2.toArray) p1 p2 fun h' hz hTI hTO h1 h2 hsz hk => wpAny_pyIter_zip hz ?_
      have I2 : Inv X pins σ H1 { s1 with heap := h' } := I1.kept (t' := s1.toks) hk
      exact ⟨s1.heap.objs.size + 4, [s1.heap.objs.size + 4, s1.heap.objs.size + 2, s1.heap.objs.size + 3, s1.heap.objs.size, s1.heap.objs.size + 1], _, _, H1, rfl, I2, turn_zipX (PySem.W.ktu_apart s1.heap.objs.size a b la lb), ⟨hz, hTI, ⟨_, _, hTO⟩, itX_of h1, itX_of h2, Nat.zero_le _, Nat.zero_le _⟩, fresh5, q⟩
theorem walk_zipX {K : PySem.W.Frag} {k l : Bool} {a b : Addr} {xs ys : List V} {n : Nat} (hn : n = min xs.length ys.length) : Walk (ItzX K k l a b xs ys) n (fun H => SqX K k H a xs ∧ SqX K l H b ys) (YPair (fun i => xs[i]?) (fun i => ys[i]?)) := by
  subst hn
  refine ⟨fun i _ hi q => ⟨q.1, q.2, by omega, by omega⟩, fun _ q => ⟨q.1, q.2, by omega⟩, fun i H v H' _ q y => ?_⟩
  obtain ⟨T, x, z, h1, h2, h3, h4, h5⟩ := y
  exact ⟨T, x, z, h1, h2, h3, h4, h5⟩
/-! ### lists and tuples, one rule -/
def iSeq (K : PySem.W.Frag) (tl : TE) : TI := fun σ H R => tl σ H fun x H1 => ∃ a, x = .ref a ∧ (((∃ xs, SqL K H1 a xs) ∧ R (Itl K a) H1) ∨ ((∃ xs, SqT K H1 a xs) ∧ R (Itt K a) H1))
theorem pi_seq {X : Cx} {tg l : Expr} {tl : TE} (hl : PE X l tl) : PI X tg l (iSeq X.K tl) := by
  refine ⟨fun pins s σ H R I h => ?_⟩
  refine thn (hl.run pins s σ H _ I h) fun v s1 ⟨x, H1, I1, r1, q1⟩ => ?_
  obtain ⟨a, e, q1⟩ := q1
  subst e
  cases r1
  rcases q1 with ⟨⟨xs, hq⟩, q⟩ | ⟨⟨xs, hq⟩, q⟩
  · obtain ⟨its, rv, p, hz⟩ := I1.list hq
    refine wpAny_pyIter_list p.isList ?_
    refine ⟨s1.heap.objs.size, [s1.heap.objs.size], _, _, H1, rfl, I1.kept (t' := s1.toks) fun b o e => Heap.get?_push_of_some _ e, turn_list a _, ⟨_, Heap.get?_push_size _ rfl, rfl, rfl⟩, fun b hb => ?_, q⟩
    have e : b = s1.heap.objs.size := by simpa using hb
    subst e
    exact I1.fpOk (Nat.le_refl _) (I1.hok.fresh (Nat.le_refl _))
  · obtain ⟨its, rv, p, hz⟩ := I1.tuple hq
    refine wpAny_pyIter_tuple (show s1.heap.IsTuple a its.toArray from p) ?_
    refine ⟨s1.heap.objs.size, [s1.heap.objs.size], _, _, H1, rfl, I1.kept (t' := s1.toks) fun b o e => Heap.get?_push_of_some _ e, turn_tuple a _, ⟨_, Heap.get?_push_size _ rfl, rfl, rfl⟩, fun b hb => ?_, q⟩
    have e : b = s1.heap.objs.size := by simpa using hb
    subst e
    exact I1.fpOk (Nat.le_refl _) (I1.hok.fresh (Nat.le_refl _))
end Mi
end
section
set_option Elab.async false
set_option autoImplicit false
set_option linter.all false
set_option maxRecDepth 100000
set_option maxHeartbeats 4000000
namespace Mi
open PySem PySem.Spec PyProof.Rows L2
/-! ### what is gone through -/
/-- the heap later on; U: what must not be changed meanwhile -/
def Later (W : Wd) (U : Addr → Prop) (F : Hp) (α : List Addr) (H H2 : Hp) : Prop := ∃ O F2 α2 M2, Grow O F α H F2 α2 H2 ∧ (∀ a, U a → ¬ O a) ∧ CM W F2 α2 M2 H2
structure ItOk (W : Wd) (U : Addr → Prop) (J : It) (F : Hp) (α : List Addr) (H : Hp) (ds : List D) (Y : Nat → Hp → V → Hp → Prop) : Prop where
  wk : Walk J ds.length (Later W U F α H) Y
  it : ∀ i H2 x H3 O F2 α2 M2, Grow O F α H F2 α2 H2 → (∀ a, U a → ¬ O a) → CM W F2 α2 M2 H2 → i < ds.length → Y i H2 x H3 → ∃ F3 d, ds[i]? = some d ∧ CM W F3 α2 M2 H3 ∧ Grow O0 F2 α2 H2 F3 α2 H3 ∧ Rep F3 α2 W.K d x
def ItB (W : Wd) (b : Bool) (J : It) (F : Hp) (α : List Addr) (H : Hp) (ds : List D) : Prop :=
  ds.length ≤ sizeLine ∧ ∃ U Y, (b = false → ∀ a, ¬ U a) ∧ (∀ a, U a → H a ≠ none) ∧ ItOk W U J F α H ds Y
def postI (W : Wd) (X : L2.WX) (b : Bool) (F : Hp) (α : List Addr) (σ : L2.St) (H : Hp) (R' : It → Hp → Prop) : R (List D) → Prop
  | .ok ds M' => ∀ F' α' H' J, Grow O0 F α H F' α' H' → CM W F' α' M' H' → ItB W b J F' α' H' ds → R' J H'
  | .exc c M' => PX W X F α σ H c M'
  | .stuck => False
def tI (W : Wd) (X : L2.WX) (b : Bool) (t : En → Mst → R (List D)) : TI := fun σ H R' => ∃ F α ρ M, CM W F α M H ∧ SL W F α H ρ σ ∧ postI W X b F α σ H R' (t ρ M)
section
variable {W : Wd} {XW : L2.WX} {b : Bool} {F F' F2 H H' H2 : Hp} {α α' α2 : List Addr} {M M' : Mst} {ρ : En} {σ : L2.St} {R' : It → Hp → Prop} {d : D} {v : V} {X : Cx} {tg : Expr}
theorem PI.imp {e : Expr} {t t' : TI} (h : PI X tg e t) (k : ∀ σ H Q, t' σ H Q → t σ H Q) : PI X tg e t' := ⟨fun pins s σ H Q I q => h.run pins s σ H Q I (k σ H Q q)⟩
theorem postI.grow {r : R (List D)} (g : Grow O0 F α H F' α' H') (h : postI W XW b F α σ H R' r) : postI W XW b F' α' σ H' R' r := by
  cases r with
  | ok d M => exact fun F2 α2 H2 J g2 c r => h F2 α2 H2 J (g.trans0 g2) c r
  | exc c M => exact fun F2 α2 H2 g2 c => h F2 α2 H2 (g.trans0 g2) c
  | stuck => exact h
theorem bindI {ta : En → Mst → R D} {f : D → Mst → R (List D)} {K : V → Hp → Prop} {b' : Bool} (c : CM W F α M H) (s : SL W F α H ρ σ) (h : postI W XW b F α σ H R' ((ta ρ M).bind f))
    (k : ∀ F1 α1 H1 M1 x v, Grow O0 F α H F1 α1 H1 → CM W F1 α1 M1 H1 → SL W F1 α1 H1 ρ σ → RepB W b' F1 α1 H1 x v → postI W XW b F1 α1 σ H1 R' (f x M1) → K v H1) : tE W XW b' ta σ H K := by
  refine ⟨F, α, ρ, M, c, s, ?_⟩
  cases e : ta ρ M with
  | ok x M1 =>
    rw [e] at h
    exact fun F1 α1 H1 v g c1 r => k F1 α1 H1 M1 x v g c1 (s.grow g) r (h.grow g)
  | exc n M1 =>
    rw [e] at h
    exact h
  | stuck =>
    rw [e] at h
    exact h
theorem bindIL {ta : En → Mst → R (List D)} {f : List D → Mst → R (List D)} {K : List V → Hp → Prop} (c : CM W F α M H) (s : SL W F α H ρ σ) (h : postI W XW b F α σ H R' ((ta ρ M).bind f))
    (k : ∀ F1 α1 H1 M1 xs vs, Grow O0 F α H F1 α1 H1 → CM W F1 α1 M1 H1 → SL W F1 α1 H1 ρ σ → Reps F1 α1 W.K xs vs → postI W XW b F1 α1 σ H1 R' (f xs M1) → K vs H1) : tL W XW ta σ H K := by
  refine ⟨F, α, ρ, M, c, s, ?_⟩
  cases e : ta ρ M with
  | ok x M1 =>
    rw [e] at h
    exact fun F1 α1 H1 v g c1 r => k F1 α1 H1 M1 x v g c1 (s.grow g) r (h.grow g)
  | exc n M1 =>
    rw [e] at h
    exact h
  | stuck =>
    rw [e] at h
    exact h
theorem postI_of {o : Option (List D)} (h : postI W XW b F α σ H R' (R.of o M)) : ∃ ds, o = some ds ∧ ∀ F' α' H' J, Grow O0 F α H F' α' H' → CM W F' α' M H' → ItB W b J F' α' H' ds → R' J H' := by
  cases o with
  | none => exact h.elim
  | some d => exact ⟨d, rfl, h⟩
/-! the walks -/
theorem Later.sub {U : Addr → Prop} (h : Later W U F α H H2) : Same F H2 := by
  obtain ⟨O, F2, α2, M2, g, _, c⟩ := h
  exact g.ff.trans c.sub
theorem yat {U : Addr → Prop} {ds : List D} {vs : List V} (r : Reps F α W.K ds vs) : ∀ i H2 x H3 O F2 α2 M2, Grow O F α H F2 α2 H2 → (∀ a, U a → ¬ O a) → CM W F2 α2 M2 H2 → i < ds.length → YAt vs i H2 x H3 → ∃ F3 d, ds[i]? = some d ∧ CM W F3 α2 M2 H3 ∧ Grow O0 F2 α2 H2 F3 α2 H3 ∧ Rep F3 α2 W.K d x :=
  fun i H2 x H3 O F2 α2 M2 g _ c hi ⟨e1, e2⟩ => by
    subst e1
    obtain ⟨d, e3, r3⟩ := r.get' e2
    exact ⟨F2, d, e3, c, Grow.refl, g.rep r3⟩
theorem it_list {ds : List D} {vs : List V} {a : Addr} {K : PySem.W.Frag} (hF : F a = some (.lst vs)) (r : Reps F α W.K ds vs) (hl : ds.length ≤ sizeLine) : ItB W b (Itl K a) F α H ds :=
  ⟨hl, fun _ => False, YAt vs, fun _ _ z => z, fun _ z => z.elim, ⟨by rw [← r.length]; exact walk_list.mono (fun H2 h => .inl (.inl (h.sub a _ hF))) fun _ _ _ _ _ _ y => y, yat r⟩⟩
theorem it_own {ds : List D} {vs : List V} {a : Addr} {K : PySem.W.Frag} (hH : H a = some (.lst vs)) (hα : a ∉ α) (r : Reps F α W.K ds vs) (hl : ds.length ≤ sizeLine) : ItB W true (Itl K a) F α H ds := by
  refine ⟨hl, fun x => x = a, YAt vs, (fun z => by cases z), fun _ z => ?_, ⟨?_, yat r⟩⟩
  · subst z
    rw [hH]
    exact fun z => by cases z
  · rw [← r.length]
    refine walk_list.mono (fun H2 ⟨O, F2, α2, M2, g, hu, c⟩ => ?_) fun _ _ _ _ _ _ y => y
    exact .inl (.inl (g.kp a _ hH hα (hu a rfl) fun z => z))
theorem it_tup {ds : List D} {vs : List V} {a : Addr} (hF : TupF F a vs) (r : Reps F α W.K ds vs) (hl : ds.length ≤ sizeLine) : ItB W b (Itt W.K a) F α H ds :=
  ⟨hl, fun _ => False, YAt vs, fun _ _ z => z, fun _ z => z.elim, ⟨by rw [← r.length]; exact walk_tup.mono (fun H2 h => (hF.mono h.sub).sq) fun _ _ _ _ _ _ y => y, yat r⟩⟩
theorem it_fn {J : It} {f : Nat → V} {ds : List D} (w : Walk J ds.length (fun _ => True) (YFn f)) (hd : ∀ i, i < ds.length → ∃ d : D, ds[i]? = some d ∧ ∀ F α, Rep F α W.K d (f i)) (hl : ds.length ≤ sizeLine) : ItB W b J F α H ds :=
  ⟨hl, fun _ => False, YFn f, fun _ _ z => z, fun _ z => z.elim, ⟨w.mono (fun _ _ => trivial) fun _ _ _ _ _ _ y => y, fun i H2 x H3 O F2 α2 M2 g _ c hi ⟨e1, e2⟩ => by
    subst e1 e2
    obtain ⟨d, e3, r3⟩ := hd i hi
    exact ⟨F2, d, e3, c, Grow.refl, r3 _ _⟩⟩⟩
/-- pairs -/
theorem ypair (hW : W.Good) {U : Addr → Prop} {ds : List D} {fx fy : Nat → Option V} (hd : ∀ i x y, i < ds.length → fx i = some x → fy i = some y → ∃ d1 d2, ds[i]? = some (.tup [d1, d2]) ∧ Rep F α W.K d1 x ∧ Rep F α W.K d2 y) :
    ∀ i H2 x H3 O F2 α2 M2, Grow O F α H F2 α2 H2 → (∀ a, U a → ¬ O a) → CM W F2 α2 M2 H2 → i < ds.length → YPair fx fy i H2 x H3 → ∃ F3 d, ds[i]? = some d ∧ CM W F3 α2 M2 H3 ∧ Grow O0 F2 α2 H2 F3 α2 H3 ∧ Rep F3 α2 W.K d x :=
  fun i H2 v H3 O F2 α2 M2 g _ c hi ⟨T, x, y, e1, hT, e2, e3, e4⟩ => by
    subst e1 e2
    obtain ⟨d1, d2, e5, r1, r2⟩ := hd i x y hi e3 e4
    obtain ⟨c1, g1⟩ := c.new W hW hT (o := .tup [x, y]) trivial
    exact ⟨_, .tup [d1, d2], e5, c1, g1, T, [x, y], rfl, .inl upd_same, g1.reps (g.reps (.cons r1 (.cons r2 .nil))), by show 2 ≤ sizeLine; decide⟩
/-- lists and tuples -/
theorem m_seq (hK : X.K = W.K) {e : Expr} {ta : En → Mst → R D} (he : PE X e (tE W XW b ta)) : PI X tg e (tI W XW b fun ρ M => (ta ρ M).bind fun d M => R.of (items d) M) := PI.imp (pi_seq he) fun σ H R' ⟨F, α, ρ, M, c, s, h⟩ => by
  refine bindI c s h fun F1 α1 H1 M1 x v g1 c1 s1 r1 h1 => ?_
  obtain ⟨ds, e, q⟩ := postI_of h1
  rw [hK]
  unfold items at e
  split at e
  · cases e
    obtain ⟨p, vs, rfl, h3, h4, h5⟩ := r1.list c1
    refine ⟨p, rfl, .inl ⟨⟨vs, SqL.of h3⟩, q F1 α1 H1 _ Grow.refl c1 ?_⟩⟩
    rcases r1 with ⟨p', vs', e1, f1, f2, f3⟩ | ⟨hb, ds', p', vs', e1, e2, f1, f2, f3, f4, f5⟩
    · cases e1
      exact it_list f1 f2 f3
    · cases e1
      cases e2
      subst hb
      exact it_own f1 f5 f2 f3
  · cases e
    obtain ⟨p, vs, rfl, h2, h3, h4, h5⟩ := r1.tuple c1
    exact ⟨p, rfl, .inr ⟨⟨vs, h3⟩, q F1 α1 H1 _ Grow.refl c1 (it_tup h2 h4 h5)⟩⟩
  · cases e
theorem rngI_get {a b : Int} {i : Nat} (h : i < (rngI a b).length) : (rngI a b)[i]? = some (.int (a + i)) := by
  unfold rngI at h ⊢
  rw [List.length_map, List.length_range] at h
  rw [List.getElem?_map, List.getElem?_range h]
  rfl
theorem rngI_len {a b : Int} : (rngI a b).length = (b - a).toNat := by
  unfold rngI
  rw [List.length_map, List.length_range]
theorem rngOk_get {a b : Int} (h : rngOk a b = true) : -(2 ^ 62) ≤ a ∧ a < 2 ^ 62 ∧ -(2 ^ 62) ≤ b ∧ b < 2 ^ 62 ∧ (b - a).toNat ≤ line := by
  unfold rngOk at h
  exact of_decide_eq_true h
theorem it_rng {a b' : Int} (hl : (b' - a).toNat ≤ line) : ItB W b (Itr a (b' - a).toNat) F α H (rngI a b') := by
  refine it_fn (f := fun i => .int (a + i)) (by rw [rngI_len]; exact walk_range) (fun i hi => ⟨_, rngI_get hi, fun _ _ => rfl⟩) (by rw [rngI_len]; exact line_eq ▸ hl)
theorem m_rng {e : Expr} {p pos : Pos} {ta : En → Mst → R D} (hg : Gl X "range") (hm : X.mg "range" = none) (he : PE X e (tE W XW true ta)) (hs : noStar e = true) :
    PI X tg (.Call (.Name "range" p) [e] [] pos) (tI W XW b fun ρ M => (ta ρ M).bind fun x M => R.of ((intOf? x).bind fun b => if rngOk 0 b then some (rngI 0 b) else none) M) :=
  PI.imp (pi_range1 hg hm (pa_cons he pa_nil (star_of hs)) (by rw [star_of hs]; rfl)) fun σ H R' ⟨F, α, ρ, M, c, s, h⟩ => by
    refine bindI c s h fun F1 α1 H1 M1 x v g1 c1 s1 r1 h1 => ?_
    obtain ⟨ds, e, q⟩ := postI_of h1
    cases x with
    | int j =>
      cases r1.int
      replace e : (if rngOk 0 j then some (rngI 0 j) else none) = some ds := e
      split at e
      · rename_i hr
        cases e
        obtain ⟨_, _, h3, h4, h5⟩ := rngOk_get hr
        refine ⟨j, rfl, h3, h4, q F1 α1 H1 _ Grow.refl c1 ?_⟩
        have := it_rng (W := W) (b := b) (F := F1) (α := α1) (H := H1) (a := 0) (b' := j) h5
        simpa using this
      · cases e
    | _ => cases e
theorem m_rng2 {e e2 : Expr} {p pos : Pos} {ta tb : En → Mst → R D} (hg : Gl X "range") (hm : X.mg "range" = none) (he : PE X e (tE W XW true ta)) (he2 : PE X e2 (tE W XW true tb)) (hs : noStar e = true) (hs2 : noStar e2 = true) :
    PI X tg (.Call (.Name "range" p) [e, e2] [] pos) (tI W XW b fun ρ M => (ta ρ M).bind fun x M => (tb ρ M).bind fun y M => R.of ((intOf? x).bind fun a => (intOf? y).bind fun b => if rngOk a b then some (rngI a b) else none) M) :=
  PI.imp (pi_range2 hg hm (pa_cons he (pa_cons he2 pa_nil (star_of hs2)) (star_of hs)) (by rw [star_of hs, star_of hs2]; rfl) (by rw [star_of hs2]; rfl)) fun σ H R' ⟨F, α, ρ, M, c, s, h⟩ => by
    refine bindI c s h fun F1 α1 H1 M1 x v g1 c1 s1 r1 h1 => ?_
    refine bindI c1 s1 h1 fun F2 α2 H2 M2 y u g2 c2 s2 r2 h2 => ?_
    obtain ⟨ds, e, q⟩ := postI_of h2
    cases x with
    | int i =>
      cases r1.int
      cases y with
      | int j =>
        cases r2.int
        replace e : (if rngOk i j then some (rngI i j) else none) = some ds := e
        split at e
        · rename_i hr
          cases e
          obtain ⟨h1, h2, h3, h4, h5⟩ := rngOk_get hr
          exact ⟨i, j, rfl, ⟨h1, h2, h3, h4⟩, q F2 α2 H2 _ Grow.refl c2 (it_rng h5)⟩
        · cases e
      | _ => cases e
    | _ => cases e
theorem m_zip (hW : W.Good) (hK : X.K = W.K) {e e2 : Expr} {p pos tpos : Pos} {elts : List Expr} {kk : Nat} {ta tb : En → Mst → R D} (hg : Gl X "zip") (hm : X.mg "zip" = none) (he : PE X e (tE W XW false ta)) (he2 : PE X e2 (tE W XW false tb)) (hs : noStar e = true) (hs2 : noStar e2 = true) :
    PI X (.Tuple elts kk tpos) (.Call (.Name "zip" p) [e, e2] [] pos) (tI W XW b fun ρ M => (ta ρ M).bind fun x M => (tb ρ M).bind fun y M => R.of ((items x).bind fun xs => (items y).map fun ys => zipD xs ys) M) :=
  PI.imp (pi_zipX hg hm (pa_cons he (pa_cons he2 pa_nil (star_of hs2)) (star_of hs)) (star_of hs) (backTo_star (by rw [List.all_cons, hs2]; rfl))) fun σ H R' ⟨F, α, ρ, M, c, s, h⟩ => by
    refine bindI c s h fun F1 α1 H1 M1 x v g1 c1 s1 r1 h1 => ?_
    refine bindI c1 s1 h1 fun F2 α2 H2 M2 y u g2 c2 s2 r2 h2 => ?_
    obtain ⟨ds, e, q⟩ := postI_of h2
    rw [Option.bind_eq_some_iff] at e
    obtain ⟨xs, e1, e⟩ := e
    rw [Option.map_eq_some_iff] at e
    obtain ⟨ys, e2, rfl⟩ := e
    have key : ∀ {F : Hp} {α : List Addr} {H : Hp} {M : Mst} {x : D} {xs : List D} {v : V}, CM W F α M H → RepB W false F α H x v → items x = some xs → ∃ k a vs, v = .ref a ∧ SqX W.K k H a vs ∧ Reps F α W.K xs vs ∧ xs.length ≤ sizeLine ∧ ∀ H2, Same F H2 → SqX W.K k H2 a vs := by
      intro F α H M x xs v c r e
      unfold items at e
      split at e
      · cases e
        obtain ⟨p, vs, rfl, h1, h2, h3⟩ := r.strict
        exact ⟨false, p, vs, rfl, .inl (.inl (c.sub _ _ h1)), h2, h3, fun H2 s => .inl (.inl (s _ _ h1))⟩
      · cases e
        obtain ⟨p, vs, rfl, h1, h2, h3⟩ := r.strict
        exact ⟨true, p, vs, rfl, (h1.mono c.sub).sq, h2, h3, fun H2 s => (h1.mono s).sq⟩
      · cases e
    obtain ⟨k, a, vs, rfl, h3, h4, h9, h5⟩ := key c2 (r1.grow g2) e1
    obtain ⟨l, a', us, rfl, h6, h7, h10, h8⟩ := key c2 r2 e2
    rw [hK]
    refine ⟨k, l, a, a', vs, us, rfl, h3, h6, q F2 α2 H2 _ Grow.refl c2 ⟨?_, fun _ => False, _, fun _ _ z => z, fun _ z => z.elim, ⟨(walk_zipX (n := (zipD xs ys).length) ?_).mono (fun H3 h => ⟨h5 _ h.sub, h8 _ h.sub⟩) fun _ _ _ _ _ _ y => y, ypair hW fun i x y hi ex ey => ?_⟩⟩⟩
    · unfold zipD
      rw [List.length_map, List.length_zip]
      omega
    · unfold zipD
      rw [List.length_map, List.length_zip, h4.length, h7.length]
    · obtain ⟨d1, f1, f2⟩ := h4.get' ex
      obtain ⟨d2, f3, f4⟩ := h7.get' ey
      refine ⟨d1, d2, ?_, f2, f4⟩
      unfold zipD
      have e5 : (xs.zip ys)[i]? = some (d1, d2) := List.getElem?_zip_eq_some.mpr ⟨f1, f3⟩
      rw [List.getElem?_map, e5]
      rfl
end
end Mi
end
section
set_option Elab.async false
set_option autoImplicit false
set_option linter.all false
set_option maxRecDepth 100000
set_option maxHeartbeats 4000000
namespace Mi
open PySem PySem.Spec PyProof.Rows L2
section
variable {W : Wd} {XW : L2.WX} {b : Bool} {F F' F2 H H' H2 : Hp} {α α' α2 : List Addr} {M M' : Mst} {ρ ρ' : En} {σ : L2.St} {d : D} {v : V} {X : Cx} {tg : Expr} {O : Addr → Prop}
/-! ### one's own lists -/
/-- a new thing that is not frozen -/
theorem CM.alloc (W : Wd) (hW : W.Good) (c : CM W F α M H) {p : Addr} {o : HO} (hp : H p = none) (ho : ¬ isTbl o) : CM W F α M (upd H p o) ∧ Grow O0 F α H F α (upd H p o) := by
  refine ⟨⟨fun b u e => ?_, c.fro, c.len, c.nd, fun n a m e1 e2 => ?_, hW _ _ c.tb (tbl_upd fun u e => by rw [hp] at e; cases e)⟩, ⟨Same.refl _, ⟨[], by simp⟩, fun a u h _ _ _ => ?_, fun a u h n => ⟨u, ?_, n⟩, fun a u h => .inl h, fun a h => .inl h⟩⟩
  · rw [upd_ne (ne_of_none (c.sub b u e) hp)]
    exact c.sub b u e
  · obtain ⟨q1, q2⟩ := c.al n a m e1 e2
    refine ⟨q1.mono W (Same.refl _) ⟨[], by simp⟩ ?_, q2⟩
    obtain ⟨u, h1, _⟩ := q1.there
    exact (upd_ne (ne_of_none h1 hp)).symm
  · rw [upd_ne (ne_of_none h hp)]
    exact h
  · rw [upd_ne (ne_of_none h hp)]
    exact h
/-- a write to a thing that is not frozen, not noted -/
theorem CM.write (W : Wd) (hW : W.Good) (c : CM W F α M H) {p : Addr} {o u : HO} (hp : H p = some u) (hu : ¬ isTbl u) (hx : ∀ φ, u ≠ .ext φ) (hF : F p = none) (hα : p ∉ α) (ho : ¬ isTbl o) : CM W F α M (upd H p o) ∧ Grow (fun a => a = p) F α H F α (upd H p o) := by
  refine ⟨⟨fun b u e => ?_, c.fro, c.len, c.nd, fun n a m e1 e2 => ?_, hW _ _ c.tb (tbl_upd fun u' e => by rw [hp] at e; cases e; exact ⟨hu, hx⟩)⟩, ⟨Same.refl _, ⟨[], by simp⟩, fun a u h _ no _ => ?_, fun a u' h n => ?_, fun a u h => .inl h, fun a h => .inl h⟩⟩
  · rw [upd_ne (ne_of_none e hF)]
    exact c.sub b u e
  · obtain ⟨q1, q2⟩ := c.al n a m e1 e2
    refine ⟨q1.mono W (Same.refl _) ⟨[], by simp⟩ ?_, q2⟩
    have : a ≠ p := fun z => hα (z ▸ List.mem_of_getElem? e1)
    exact (upd_ne this).symm
  · rw [upd_ne no]
    exact h
  · by_cases hb : a = p
    · subst hb
      exact ⟨o, upd_same, ho⟩
    · exact ⟨u', by rw [upd_ne hb]; exact h, n⟩
/-- what is one's own is frozen -/
theorem CM.freeze (W : Wd) (c : CM W F α M H) {p : Addr} {o : HO} (hp : H p = some o) (hF : F p = none) (hα : p ∉ α) (ho : isFro o) : CM W (upd F p o) α M H ∧ Grow (fun a => a = p) F α H (upd F p o) α H := by
  have sF : Same F (upd F p o) := fun b u e => by
    rw [upd_ne (ne_of_none e hF)]
    exact e
  refine ⟨⟨fun b u e => ?_, fun b u e => ?_, c.len, c.nd, fun n a m e1 e2 => ?_, c.tb⟩, ⟨sF, ⟨[], by simp⟩, fun a u h _ _ _ => h, fun a u h n => ⟨u, h, n⟩, fun a u h => ?_, fun a h => .inl h⟩⟩
  · by_cases hb : b = p
    · subst hb
      rw [upd_same] at e
      cases e
      exact hp
    · rw [upd_ne hb] at e
      exact c.sub b u e
  · by_cases hb : b = p
    · subst hb
      rw [upd_same] at e
      cases e
      exact ho
    · rw [upd_ne hb] at e
      exact c.fro b u e
  · obtain ⟨q1, q2⟩ := c.al n a m e1 e2
    refine ⟨q1.mono W sF ⟨[], by simp⟩ rfl, ?_⟩
    have : a ≠ p := fun z => hα (z ▸ List.mem_of_getElem? e1)
    rw [upd_ne this]
    exact q2
  · by_cases hb : a = p
    · exact .inr (.inr hb)
    · rw [upd_ne hb] at h
      exact .inl h
def Own (W : Wd) (F : Hp) (α : List Addr) (H : Hp) (ds : List D) (p : Addr) : Prop := ∃ vs, H p = some (.lst vs) ∧ Reps F α W.K ds vs ∧ ds.length ≤ sizeLine ∧ F p = none ∧ p ∉ α
theorem Own.slot {ds : List D} {p : Addr} (h : Own W F α H ds p) : SlR W F α H (.own ds) (some (some (.ref p))) := by
  obtain ⟨vs, h⟩ := h
  exact ⟨p, vs, rfl, h⟩
theorem Own.of {ds : List D} {p : Addr} (h : SlR W F α H (.own ds) (some (some (.ref p)))) : Own W F α H ds p := by
  obtain ⟨p', vs, e, h⟩ := h
  cases e
  exact ⟨vs, h⟩
theorem Own.grow {ds : List D} {p : Addr} (h : Own W F α H ds p) (g : Grow O F α H F' α' H') (no : ¬ O p) : Own W F' α' H' ds p :=
  Own.of (h.slot.grow g fun q e _ => by cases e; exact no)
/-- another list stands there -/
theorem Own.put (hW : W.Good) {ds es : List D} {ws : List V} {p : Addr} (h : Own W F α H ds p) (c : CM W F α M H) (r : Reps F α W.K es ws) (hl : es.length ≤ sizeLine) :
    CM W F α M (upd H p (.lst ws)) ∧ Grow (fun a => a = p) F α H F α (upd H p (.lst ws)) ∧ Own W F α (upd H p (.lst ws)) es p := by
  obtain ⟨vs, h1, h2, h3, h4, h5⟩ := h
  obtain ⟨c1, g1⟩ := c.write W hW h1 (fun z => z) (fun _ z => by cases z) h4 h5 (o := .lst ws) fun z => z
  exact ⟨c1, g1, ws, upd_same, r, hl, h4, h5⟩
theorem Own.frz {ds : List D} {p : Addr} (h : Own W F α H ds p) (c : CM W F α M H) : ∃ F', CM W F' α M H ∧ Grow (fun a => a = p) F α H F' α H ∧ Rep F' α W.K (.lst ds) (.ref p) := by
  obtain ⟨vs, h1, h2, h3, h4, h5⟩ := h
  obtain ⟨c1, g1⟩ := c.freeze W h1 h4 h5 trivial
  exact ⟨_, c1, g1, p, vs, rfl, upd_same, g1.reps h2, h3⟩
/-! ### targets -/
def tG (W : Wd) (t : List Nat) : TG := fun v σ H Q => ∃ F α ρ M d ρ', CM W F α M H ∧ SL W F α H ρ σ ∧ Rep F α W.K d v ∧ asg ρ t d = some ρ' ∧ ∀ σ', SL W F α H ρ' σ' → wipe σ' t = wipe σ t → (∀ p, OwnA σ' ρ' p → OwnA σ ρ p) → Q σ' H
theorem PG.imp {e : Expr} {t t' : TG} (h : PG X e t) (k : ∀ v σ H Q, t' v σ H Q → t v σ H Q) : PG X e t' := ⟨fun pins s σ H v u Q I r q => h.run pins s σ H v u Q I r (k v σ H Q q)⟩
theorem set_comm_none (σ : L2.St) (i j : Nat) (a : Option V) : (σ.set i a).set j none = if i = j then σ.set j none else (σ.set j none).set i a := by
  split
  · rename_i h
    subst h
    rw [List.set_set]
  · rename_i h
    rw [List.set_comm _ _ h]
theorem wipe_set {i : Nat} {a : Option V} : ∀ {t : List Nat} {σ : L2.St}, i ∈ t → wipe (σ.set i a) t = wipe σ t
  | [], _, h => by cases h
  | j :: t, σ, h => by
    show (wipe (σ.set i a) t).set j none = (wipe σ t).set j none
    by_cases hi : i ∈ t
    · rw [wipe_set hi]
    · have hj : i = j := by
        rcases List.mem_cons.mp h with h | h
        · exact h
        · exact absurd h hi
      subst hj
      have key : ∀ (t : List Nat) (σ : L2.St), wipe (σ.set i a) t = if i ∈ t then wipe σ t else (wipe σ t).set i a := by
        intro t
        induction t with
        | nil => intro σ; simp [wipe]
        | cons k t ih =>
          intro σ
          show (wipe (σ.set i a) t).set k none = _
          rw [ih]
          by_cases h1 : i ∈ t
          · simp [h1, wipe]
          · rw [if_neg h1, set_comm_none]
            by_cases h2 : i = k
            · subst h2
              simp [wipe]
            · simp [h1, h2, wipe]
      rw [key, if_neg hi, List.set_set]
theorem own_setV {i : Nat} {p : Addr} (h : OwnA (σ.set i (some v)) (ρ.set i (.v d)) p) : OwnA σ ρ p := by
  rcases h.set with h | ⟨h, _⟩
  · exact h
  · cases h
theorem g_name {e : Expr} {i : Nat} (h : PG X e (gName i)) : PG X e (tG W [i]) := PG.imp h fun v σ H Q ⟨F, α, ρ, M, d, ρ', c, s, r, e, q⟩ => by
  cases e
  exact q _ (s.setV r) (wipe_set (by simp)) fun p h => own_setV h
def gNames : List Nat → TGs
  | [] => gNil
  | i :: is => gCons (gName i) (gNames is)
theorem gNames_of {Q : L2.St → Hp → Prop} : ∀ {t : List Nat} {ds : List D} {vs : List V} {ρ ρ' : En} {σ : L2.St} (T : List Nat), (∀ i ∈ t, i ∈ T) → SL W F α H ρ σ → Reps F α W.K ds vs → setAll ρ t ds = some ρ' → (∀ σ', SL W F α H ρ' σ' → wipe σ' T = wipe σ T → (∀ p, OwnA σ' ρ' p → OwnA σ ρ p) → Q σ' H) → gNames t vs σ H Q
  | [], ds, vs, ρ, ρ', σ, T, hT, s, r, e, q => by
    cases ds with
    | nil =>
      cases e
      exact ⟨r, q σ s rfl fun _ h => h⟩
    | cons d ds => cases e
  | i :: t, ds, vs, ρ, ρ', σ, T, hT, s, r, e, q => by
    cases ds with
    | nil => cases e
    | cons d ds =>
      obtain ⟨v, vr, rfl, r1, r2⟩ := r
      refine ⟨v, vr, rfl, ?_⟩
      refine gNames_of T (fun i hi => hT i (List.mem_cons_of_mem _ hi)) (s.setV r1) r2 (show setAll (ρ.set i (.v d)) t ds = some ρ' from e) fun σ' s' w o => q σ' s' ?_ fun p h => own_setV (o p h)
      rw [w, wipe_set (hT i (by simp))]
theorem g_tup (hK : X.K = W.K) {e : Expr} {t : List Nat} (h : PG X e (gTup X.K t.length (gNames t))) (ht : 2 ≤ t.length) : PG X e (tG W t) := PG.imp h fun v σ H Q ⟨F, α, ρ, M, d, ρ', c, s, r, e, q⟩ => by
  unfold asg at e
  split at e
  · simp at ht
  · split at e
    · rename_i xs
      split at e
      · rename_i hl
        obtain ⟨p, vs, rfl, h1, h2, h3⟩ := r
        refine ⟨p, vs, rfl, by rw [hK]; exact (h1.mono c.sub).sq, by rw [h2.length, hl], ?_⟩
        exact gNames_of t (fun _ h => h) s h2 e q
      · cases e
    · cases e
/-! ### places forgotten -/
theorem SL.no {i : Nat} (h : SL W F α H ρ σ) (a : Option V) : SL W F α H (ρ.set i .no) (σ.set i a) where
  len := by simpa using h.len
  at_ := fun j s e => by
    by_cases hj : i = j
    · subst hj
      by_cases hl : i < ρ.length
      · rw [List.getElem?_set_self hl] at e
        cases e
        trivial
      · rw [List.getElem?_eq_none (by simpa using hl)] at e
        cases e
    · rw [List.getElem?_set_ne hj] at e ⊢
      exact h.at_ j s e
  dis := fun j k p h1 h2 => by
    have key : ∀ j, OwnAt (σ.set i a) (ρ.set i .no) j p → OwnAt σ ρ j p := fun j ⟨e1, t, e2, m⟩ => by
      by_cases hj : i = j
      · subst hj
        by_cases hl : i < ρ.length
        · rw [List.getElem?_set_self hl] at e2
          cases e2
          cases m
        · rw [List.getElem?_eq_none (by simpa using hl)] at e2
          cases e2
      · rw [List.getElem?_set_ne hj] at e1 e2
        exact ⟨e1, t, e2, m⟩
    exact h.dis j k p (key j h1) (key k h2)
theorem SL.wipe : ∀ {t : List Nat} {ρ : En} {σ : L2.St}, SL W F α H ρ σ → SL W F α H (wipE ρ t) (L2.wipe σ t)
  | [], _, _, h => h
  | i :: t, ρ, σ, h => (SL.wipe (t := t) h).no none
/-! ### [elt for target in iter if c] -/
abbrev WXF : L2.WX := fun _ _ _ _ => False
theorem PTs.imp {ifs : List Expr} {t t' : TT} (h : PTs X ifs t) (k : ∀ σ H Q, t' σ H Q → t σ H Q) : PTs X ifs t' := ⟨fun pins s σ H Q I q => h.run pins s σ H Q I (k σ H Q q)⟩
theorem m_yes : PTs X [] (tT W XW fun _ M => .ok (.bl true) M) := PTs.imp pts_nil fun σ H Q ⟨F, α, ρ, M, c, s, h⟩ => by
  obtain ⟨k, e, h⟩ := h
  cases e
  exact h F α H Grow.refl c
def stepD (t : List Nat) (tc te : En → Mst → R D) (ρ : En) (x : D) (M : Mst) : R (Option D) := match asg ρ t x with
  | some ρ => (tc ρ M).quiet.bind fun k M => boolOf k M fun k => if k then (te ρ M).quiet.bind fun y M => .ok (some y) M else .ok none M
  | none => .stuck
theorem bind_ok {β γ : Type} {x : R β} {f : β → Mst → R γ} {c : γ} {M' : Mst} (h : x.bind f = .ok c M') : ∃ a M1, x = .ok a M1 ∧ f a M1 = .ok c M' := by
  cases x with
  | ok a M1 => exact ⟨a, M1, rfl, h⟩
  | exc n M1 => cases h
  | stuck => cases h
theorem quiet_ok {β : Type} {x : R β} {a : β} {M1 : Mst} (h : x.quiet = .ok a M1) : x = .ok a M1 := by
  cases x with
  | ok a M => exact h
  | exc n M => cases h
  | stuck => cases h
theorem compD_len {β γ : Type} {f : β → Mst → R (Option γ)} : ∀ {xs : List β} {M M' : Mst} {ys : List γ}, compD f xs M = .ok ys M' → ys.length ≤ xs.length
  | [], M, M', ys, h => by
    cases h
    exact Nat.le_refl _
  | x :: xs, M, M', ys, h => by
    obtain ⟨y, M1, e1, h⟩ := bind_ok h
    obtain ⟨zs, M2, e2, h⟩ := bind_ok h
    have := compD_len e2
    cases h
    cases y with
    | none => exact Nat.le_succ_of_le this
    | some y => exact Nat.succ_le_succ this
theorem compD_not_exc {β γ : Type} {f : β → Mst → R (Option γ)} (hf : ∀ x M c M', f x M ≠ .exc c M') : ∀ {xs : List β} {M : Mst} {c : Nat} {M' : Mst}, compD f xs M ≠ .exc c M'
  | [], M, c, M', h => by cases h
  | x :: xs, M, c, M', h => by
    unfold compD at h
    cases e : f x M with
    | ok y M1 =>
      rw [e] at h
      cases e2 : compD f xs M1 with
      | ok ys M2 =>
        simp only [R.bind, e2] at h
        cases h
      | exc c2 M2 => exact compD_not_exc hf e2
      | stuck =>
        simp only [R.bind, e2] at h
        cases h
    | exc c2 M2 => exact hf _ _ _ _ e
    | stuck =>
      rw [e] at h
      cases h
theorem stepD_not_exc {t : List Nat} {tc te : En → Mst → R D} {ρ : En} (x : D) (M : Mst) (c : Nat) (M' : Mst) : stepD t tc te ρ x M ≠ .exc c M' := by
  intro h
  unfold stepD at h
  split at h
  · rename_i ρ' _
    cases e : tc ρ' M with
    | ok k M1 =>
      simp only [e, R.quiet, R.bind] at h
      cases k with
      | bl k =>
        cases k with
        | true =>
          simp only [boolOf, if_true] at h
          cases e2 : te ρ' M1 with
          | ok y M2 =>
            simp only [e2] at h
            cases h
          | exc c2 M2 =>
            simp only [e2] at h
            cases h
          | stuck =>
            simp only [e2] at h
            cases h
        | false => cases h
      | _ => cases h
    | exc c2 M2 =>
      simp only [e, R.quiet, R.bind] at h
      cases h
    | stuck =>
      simp only [e, R.quiet, R.bind] at h
      cases h
  · cases h
/-- a new list, still one's own -/
def postF (W : Wd) (X : L2.WX) (F : Hp) (α : List Addr) (σ : L2.St) (H : Hp) (Q : VK) : R D → Prop
  | .ok d M' => ∃ ds, d = .lst ds ∧ ∀ F' α' H' p, Grow O0 F α H F' α' H' → CM W F' α' M' H' → Own W F' α' H' ds p → Fre H p → Q (.ref p) H'
  | .exc c M' => PX W X F α σ H c M'
  | .stuck => False
def tF (W : Wd) (X : L2.WX) (t : En → Mst → R D) : TE := fun σ H Q => ∃ F α ρ M, CM W F α M H ∧ SL W F α H ρ σ ∧ postF W X F α σ H Q (t ρ M)
theorem tF_E {t : En → Mst → R D} (ht : ∀ ρ M d M', t ρ M = .ok d M' → ∃ ds, d = .lst ds) {σ : L2.St} {H : Hp} {Q : VK} : tE W XW false t σ H Q → tF W XW t σ H Q := fun ⟨F, α, ρ, M, c, s, h⟩ => by
  refine ⟨F, α, ρ, M, c, s, ?_⟩
  cases e : t ρ M with
  | exc n M1 =>
    rw [e] at h
    exact h
  | stuck =>
    rw [e] at h
    exact h
  | ok d M1 =>
    rw [e] at h
    obtain ⟨ds, rfl⟩ := ht _ _ _ _ e
    refine ⟨ds, rfl, fun F1 α1 H1 p g1 c1 o1 f1 => ?_⟩
    obtain ⟨F2, c2, g2, r2⟩ := o1.frz c1
    exact h F2 α1 H1 (.ref p) (g1.trans g2 fun a z => .inr (by subst z; exact f1)) c2 (.inl r2)
theorem postF.grow {Q : VK} {r : R D} (g : Grow O0 F α H F' α' H') (h : postF W XW F α σ H Q r) : postF W XW F' α' σ H' Q r := by
  cases r with
  | ok d M =>
    obtain ⟨ds, e, h⟩ := h
    exact ⟨ds, e, fun F2 α2 H2 p g2 c o f => h F2 α2 H2 p (g.trans0 g2) c o (g.fre f)⟩
  | exc c M => exact fun F2 α2 H2 g2 c => h F2 α2 H2 (g.trans0 g2) c
  | stuck => exact h
def lcD (t : List Nat) (ti : En → Mst → R (List D)) (tc te : En → Mst → R D) : En → Mst → R D := fun ρ M => (ti ρ M).bind fun xs M => (compD (stepD t tc te (wipE ρ t)) xs M).bind fun ys M => .ok (.lst ys) M
theorem lcD_lst {t : List Nat} {ti : En → Mst → R (List D)} {tc te : En → Mst → R D} : ∀ ρ M d M', lcD t ti tc te ρ M = .ok d M' → ∃ ds, d = .lst ds := fun ρ M d M' h => by
  obtain ⟨xs, M1, _, h⟩ := bind_ok h
  obtain ⟨ys, M2, _, h⟩ := bind_ok h
  cases h
  exact ⟨ys, rfl⟩
theorem lc_impF (hW : W.Good) {t : List Nat} {ti : En → Mst → R (List D)} {tc te : En → Mst → R D} {σ : L2.St} {H : Hp} {Q : VK} : tF W XW (lcD t ti tc te) σ H Q → tLc (tI W XW true ti) (tG W t) (tT W WXF tc) (tE W WXF false te) t σ H Q := fun ⟨F, α, ρ, M, c, s, h⟩ => by
  refine ⟨F, α, ρ, M, c, s, ?_⟩
  unfold lcD at h
  cases e : ti ρ M with
  | exc n M1 =>
    rw [e] at h
    exact h
  | stuck =>
    rw [e] at h
    exact h
  | ok ds M1 =>
    rw [e] at h
    replace h : postF W XW F α σ H Q ((compD (stepD t tc te (wipE ρ t)) ds M1).bind fun ys M => .ok (.lst ys) M) := h
    cases e2 : compD (stepD t tc te (wipE ρ t)) ds M1 with
    | exc n M2 => exact absurd e2 (compD_not_exc stepD_not_exc)
    | stuck =>
      rw [e2] at h
      exact h.elim
    | ok ysT MT =>
      rw [e2] at h
      obtain ⟨_, ex, h⟩ := h
      cases ex
      intro F1 α1 H1 J g1 c1 ⟨hlen, U, Y, _, hU, B⟩ D hD
      have s1 := s.grow g1
      obtain ⟨c2, g2⟩ := c1.alloc W hW hD (o := .lst []) fun z => z
      have fD : F1 D = none := by
        cases q : F1 D with
        | none => rfl
        | some u =>
          have := c1.sub D u q
          rw [hD] at this
          cases this
      have aD : D ∉ α1 := fun z => by
        obtain ⟨n, o, _, _, q, _⟩ := c1.at_ z
        obtain ⟨u, q, _⟩ := q.there
        rw [hD] at q
        cases q
      have freD : Fre H1 D := fun o z => by
        rw [hD] at z
        cases z
      refine lc_it B.wk (Pv := fun i H => ∃ F α M accd ys, CM W F α M H ∧ Grow O0 F1 α1 H1 F α H ∧ Own W F α H accd D ∧ compD (stepD t tc te (wipE ρ t)) (ds.drop i) M = .ok ys MT ∧ accd ++ ys = ysT ∧ accd.length ≤ i) ?_ ?_ ?_ ?_
      · exact ⟨F1, α1, M1, [], ysT, c2, g2, ⟨[], upd_same, rfl, Nat.zero_le _, fD, aD⟩, e2, rfl, Nat.le_refl _⟩
      · intro i H2 hi ⟨F2, α2, M2, accd, ys, c3, g3, _⟩
        exact ⟨O0, F2, α2, M2, g3, fun _ _ z => z, c3⟩
      · intro i x H2 H3 hi ⟨F2, α2, M2, accd, ys, c3, g3, o3, e3, e4, l3⟩ hy
        obtain ⟨F3, d, e5, c4, g4, r4⟩ := B.it i H2 x H3 O0 F2 α2 M2 g3 (fun _ _ z => z) c3 hi hy
        have o4 := o3.grow g4 fun z => z
        have g5 := g3.trans0 g4
        have ed : ds.drop i = d :: ds.drop (i + 1) := by
          obtain ⟨hi', q⟩ := List.getElem?_eq_some_iff.mp e5
          rw [List.drop_eq_getElem_cons hi', q]
        rw [ed] at e3
        obtain ⟨y, M3, e6, e3⟩ := bind_ok e3
        obtain ⟨zs, M4, e7, e3⟩ := bind_ok e3
        unfold stepD at e6
        cases ea : asg (wipE ρ t) t d with
        | none =>
          rw [ea] at e6
          cases e6
        | some ρ2 =>
          rw [ea] at e6
          obtain ⟨k, M5, e8, e6⟩ := bind_ok e6
          replace e8 := quiet_ok e8
          refine ⟨F3, α2, wipE ρ t, M2, d, ρ2, c4, (s1.grow g5).wipe, r4, ea, fun σ2 s2 w2 _ => ⟨?_, ?_⟩⟩
          · have w3 : L2.wipe (L2.wipe σ t) t = L2.wipe σ t := by
              have key : ∀ (t u : List Nat) (σ : L2.St), (∀ i ∈ t, i ∈ u) → L2.wipe (L2.wipe σ t) u = L2.wipe σ u := by
                intro t
                induction t with
                | nil => intro u σ _; rfl
                | cons k t ih =>
                  intro u σ hu
                  show L2.wipe ((L2.wipe σ t).set k none) u = _
                  rw [wipe_set (hu k (by simp)), ih u σ fun i hi => hu i (by simp [hi])]
              exact key t t σ fun _ h => h
            rw [w2, w3]
          · refine ⟨F3, α2, ρ2, M2, c4, s2, ?_⟩
            rw [e8]
            cases k with
            | bl k =>
              refine ⟨k, rfl, fun F4 α4 H4 g6 c5 => ?_⟩
              have o5 := o4.grow g6 fun z => z
              have g7 := g5.trans0 g6
              cases k with
              | false =>
                cases e6
                cases e3
                simp only [Bool.false_eq_true, if_false]
                exact ⟨F4, α4, _, accd, zs, c5, g7, o5, e7, e4, Nat.le_succ_of_le l3⟩
              | true =>
                simp only [if_true]
                simp only [boolOf, if_true] at e6
                obtain ⟨y', M6, e9, e6⟩ := bind_ok e6
                replace e9 := quiet_ok e9
                cases e6
                cases e3
                refine ⟨F4, α4, ρ2, M5, c5, s2.grow g6, ?_⟩
                rw [e9]
                intro F5 α5 H5 yv g8 c6 r8
                have o6 := o5.grow g8 fun z => z
                have g9 := g7.trans0 g8
                obtain ⟨acc, q1, q2, q3, q4, q5⟩ := id o6
                have hlt : accd.length < sizeLine := by omega
                obtain ⟨c7, g10, o7⟩ := o6.put hW c6 (es := accd ++ [y']) (ws := acc ++ [yv]) (q2.append (.one r8.strict)) (by rw [List.length_append]; exact hlt)
                refine ⟨acc, q1, by rw [q2.length]; exact hlt, F5, α5, _, accd ++ [y'], zs, c7, g9.trans g10 fun a z => .inr (by subst z; exact freD), o7, e7, by rw [← e4, List.append_assoc]; rfl, ?_⟩
                rw [List.length_append]
                exact Nat.succ_le_succ l3
            | _ => cases e6
      · intro H2 ⟨F2, α2, M2, accd, ys, c3, g3, o3, e3, e4, l3⟩
        rw [List.drop_length] at e3
        cases e3
        rw [List.append_nil] at e4
        subst e4
        exact h F2 α2 H2 D (g1.trans0 g3) c3 o3 (g1.fre freD)
theorem m_lc (hW : W.Good) (hc : X.calm = true) (hN : X.N.Nodup) {elt iter : Expr} {ifs : List Expr} {scope : Scope} {own : List (Str × Nat)} {pos : Pos} {t : List Nat} {ti : En → Mst → R (List D)} {tc te : En → Mst → R D} (hi : PI X tg iter (tI W XW true ti)) (ok : BlkOk X.N X.env.scope scope own) (ho : own.map (·.2) = t)
    (hg : ∀ (s : Shared) (H : Hp) (C : Addr) (cl : List (Str × Addr)) (fp : List Addr), PG (X.blk s H scope (compEnvC scope cl C X.env) fp) tg (tG W t))
    (ht : ∀ (s : Shared) (H : Hp) (C : Addr) (cl : List (Str × Addr)) (fp : List Addr), PTs (X.blk s H scope (compEnvC scope cl C X.env) fp) ifs (tT W WXF tc))
    (he : ∀ (s : Shared) (H : Hp) (C : Addr) (cl : List (Str × Addr)) (fp : List Addr), PE (X.blk s H scope (compEnvC scope cl C X.env) fp) elt (tE W WXF false te)) (hs : ∀ x, foldedSetIterable iter X.env x = pure x) :
    PE X (.ListComp elt [⟨tg, iter, ifs, 0⟩] scope pos) (tF W XW (lcD t ti tc te)) :=
  PE.imp (pe_lc hc hN hi ok hg ht he hs) fun σ H Q h => by
    rw [ho]
    exact lc_impF hW h
theorem m_ofF {e : Expr} {t : En → Mst → R D} (h : PE X e (tF W XW t)) (ht : ∀ ρ M d M', t ρ M = .ok d M' → ∃ ds, d = .lst ds) : PE X e (tE W XW false t) := PE.imp h fun _ _ _ q => tF_E ht q
end
end Mi
end
section
set_option Elab.async false
set_option autoImplicit false
set_option linter.all false
set_option maxRecDepth 100000
set_option maxHeartbeats 4000000
namespace Mi
open PySem PySem.Spec PyProof.Rows L2
/-! ### set(l) of a list of ints -/
section
variable {P : Program} {w : World} {A : Around} {E : Value → Shared → Prop} {s : Shared}
theorem call_set_listI {l : Addr} {items : Array Value} (ns : List Int) {Q : Value → Shared → Prop} (hh : A.handled = none) (hl : s.heap.IsList l items) (hit : IntsAre items.toList ns) (hb : ns.length + 1 < scanBound)
    (h : ∀ (h' : Heap) (tk c : Nat), SetR w h' s.heap.objs.size (fun j => decide (j ∈ ns)) c → c ≤ ns.length → (∀ b o, s.heap.get? b = some o → h'.get? b = some o) → Q (.ref s.heap.objs.size) { s with heap := h', toks := tk }) :
    wpAny (model P w) A (call (.type "set") [.ref l]) Q E s := by
  have hisz : items.size = ns.length := by
    have q := IntsAre.length hit
    rw [Array.length_toList] at q
    exact q
  obtain ⟨c, tl, hmro⟩ := F.called_set.mro
  have hmade := F.called_set.made
  have hsub := F.called_set.sub
  refine wpAny_call (codeAny_of_tree ?_)
  show wpAny _ _ (callAny (.type "set") _) _ _ _
  refine wpAny_pure ⟨Code.quiet_builtin _ (by decide +kernel), codeAny_builtin F.entry_type_call ?_⟩
  rw [Around.under_plain (weight_type_call_type "set" [.ref l] []) rfl]
  have h1 := F.called_set.notType
  have h2 := F.called_set.canCreate
  have hct := F.typeCall_set_1 (.ref l)
  repeat (any_goals (first | assumption | wp_step))

  refine codeAny_mono (code_set_led1 (.ref l) (E := E) (Q₁ := fun obj s₁ => obj = .ref s.heap.objs.size ∧ s₁ = { s with heap := s.heap.push { cls := .type "set", dict := none, data := .set #[] 0 (.fresh 0 0 (!w.params.followText "set-order")) } }) ⟨rfl, rfl⟩) fun r s₁ hr => ?_
  cases r with
  | error e => exact hr
  | ok fl =>
    cases fl with
    | ret obj =>
      obtain ⟨rfl, rfl⟩ := hr
      have hS : (s.heap.push { cls := .type "set", dict := none, data := .set #[] 0 (.fresh 0 0 (!w.params.followText "set-order")) }).get? s.heap.objs.size = some { cls := .type "set", dict := none, data := .set #[] 0 (.fresh 0 0 (!w.params.followText "set-order")) } := Heap.get?_push_size _ rfl
      have hT : Shared.TypeIs { s with heap := s.heap.push { cls := .type "set", dict := none, data := .set #[] 0 (.fresh 0 0 (!w.params.followText "set-order")) } } (.ref s.heap.objs.size) "set" := ⟨_, hS, rfl⟩
      have hli := F.called_set.init.lookup
      have hbi := F.called_set.init.bind (.ref s.heap.objs.size)
      repeat (any_goals (first | assumption | wp_step))

      refine codeAny_mono (codeAny_call_builtin (R := wants (fun r s₂ => r = .none ∧ ∃ h' tk c, s₂ = { s with heap := h', toks := tk } ∧ SetR w h' s.heap.objs.size (fun j => decide (j ∈ ns)) c ∧ c ≤ ns.length ∧
          (∀ b o, s.heap.get? b = some o → h'.get? b = some o)) E) F.called_set.init.plain F.entry_set_init (check_set_init_1 hT ?_)) fun r₂ s₂ hr₂ => ?_
      · obtain ⟨ol, hol, hcl, nl, hdl⟩ := hl
        obtain ⟨ocls, odict, odata, oslots⟩ := ol
        simp only at hcl hdl
        subst hcl; subst hdl
        have hol' : (s.heap.push { cls := .type "set", dict := none, data := .set #[] 0 (.fresh 0 0 (!w.params.followText "set-order")) }).get? l = some { cls := .type "list", dict := odict, data := .seq items nl, slots := oslots } := Heap.get?_push_of_some _ hol
        have hsls := F.sub_list_set
        have hslf := F.sub_list_frozenset
        have hne : (Value.type "list" == Value.type "dict") = false := by decide
        have hl1 : (s.heap.push { cls := .type "set", dict := none, data := .set #[] 0 (.fresh 0 0 (!w.params.followText "set-order")) }).IsList l items := ⟨_, hol', rfl, nl, rfl⟩
        unfold Builtin.«set.__init__» noKeywords Builtin.Frozenset.updateFrom
        generalize hPI : pyIter = PI
        wp_walk
        subst hPI

        refine wpAny_pyIter_list hl1 ?_
        refine wpAny_bind (wpAny_runValue ?_)
        have hlS : l < s.heap.objs.size := Heap.lt_size hol
        have hh3 : A.in1.in1.in1.handled = none := by simp [hh]
        have hz1 : (s.heap.push { cls := .type "set", dict := none, data := .set #[] 0 (.fresh 0 0 (!w.params.followText "set-order")) }).objs.size = s.heap.objs.size + 1 := Heap.size_push ..
        have hneI : l ≠ (s.heap.push { cls := .type "set", dict := none, data := .set #[] 0 (.fresh 0 0 (!w.params.followText "set-order")) }).objs.size := by
          rw [Heap.size_push]; exact Nat.ne_of_lt (Nat.lt_succ_of_lt hlS)
        have hSf : s.heap.objs.size ∉ [(s.heap.push { cls := .type "set", dict := none, data := .set #[] 0 (.fresh 0 0 (!w.params.followText "set-order")) }).objs.size, l] := by
          rw [Heap.size_push]; simp only [List.mem_cons, List.mem_singleton, List.not_mem_nil, or_false, not_or]
          exact ⟨Nat.ne_of_lt (Nat.lt_succ_self _), Nat.ne_of_gt hlS⟩
        have hval : ∀ (i : Nat) (v : Value), items[i]? = some v → ∃ k t, ns[i]? = some k ∧ v = .int k t := fun i v hv => by
          have hi : i < ns.length := by rw [← hisz]; exact (Array.getElem?_eq_some_iff.mp hv).1
          obtain ⟨t, e⟩ := PyProof.Rows.IntsAre.int_at hit i v (by rw [Array.getElem?_toList]; exact hv)
          refine ⟨ns[i], t, List.getElem?_eq_getElem hi, ?_⟩
          rw [e, List.getD_eq_getElem?_getD, List.getElem?_eq_getElem hi] <;> rfl
        refine set_update_ints ((Walks.list hh3 _ l hneI items).toS) s.heap.objs.size
          hSf ns hisz hb hval (items.size - 0) 0 _ (by omega) (Nat.zero_le _)
          ⟨⟨_, Heap.get?_push_size _ rfl, rfl, rfl⟩, (hl1.push _)⟩ ?hS0 ?hR
        case hS0 =>
          have hget : ((s.heap.push { cls := .type "set", dict := none, data := .set #[] 0 (.fresh 0 0 (!w.params.followText "set-order")) }).push { cls := .type "list_iterator", data := .fields #[.ref l, .int 0 0] }).get? s.heap.objs.size
              = some { cls := .type "set", dict := none, data := .set #[] 0 (.fresh 0 0 (!w.params.followText "set-order")) } := Heap.get?_push_of_some _ hS
          exact ⟨0, Nat.le_refl 0, setR_new_at hget⟩
        case hR =>
          intro s' c' hm hc' hS'
          obtain ⟨h', g2, d', tk', os'⟩ := s'
          have eg : g2 = s.gens := hm.gens
          have ed : d' = s.drawn := hm.drawn
          have eo : os' = s.os := hm.os
          subst eg; subst ed; subst eo
          show wpAny _ _ _ _ _ _
          refine wpAny_pure ?_
          show wpAny _ _ (ret Value.none) _ _ _
          rw [hisz] at hc'
          refine wpAny_pure ⟨rfl, h', tk', c', rfl, hS', hc', fun b o e => ?_⟩
          have hb0 : b < s.heap.objs.size := Heap.lt_size e
          have hb1 : b ≠ s.heap.objs.size := Nat.ne_of_lt hb0
          have hb2 : b ≠ (s.heap.push { cls := .type "set", dict := none, data := .set #[] 0 (.fresh 0 0 (!w.params.followText "set-order")) }).objs.size := by
            rw [Heap.size_push]; exact Nat.ne_of_lt (Nat.lt_succ_of_lt hb0)
          exact hm.heap b o (by simp only [List.mem_cons, List.mem_singleton, List.not_mem_nil, or_false, not_or]; exact ⟨hb1, hb2⟩) (Heap.get?_push_of_some _ (Heap.get?_push_of_some _ e))

      · cases r₂ with
        | error e => exact hr₂
        | ok fl₂ =>
          cases fl₂ with
          | ret r =>
            obtain ⟨rfl, h', tk, c', rfl, hS', hc', hk'⟩ := hr₂
            repeat (any_goals (first | assumption | wp_step))
            exact h _ _ _ hS' hc' hk'
          | _ => exact hr₂.elim
    | _ => exact hr.elim

end

section
variable {W : Wd} {XW : L2.WX} {b : Bool} {F F' F2 H H' H2 : Hp} {α α' α2 : List Addr} {M M' : Mst} {ρ ρ' : En} {σ : L2.St} {d : D} {v : V} {X : Cx} {tg : Expr} {Q : VK}
/-- set(xs), xs a list or tuple of ints -/
def rSetI (K : PySem.W.Frag) (w : World) : List V → Hp → VK → Prop := fun xs H Q => ∃ (l : Addr) (ns : List Int), xs = [.ref l] ∧ (SqL K H l (ns.map V.int) ∨ SqT K H l (ns.map V.int)) ∧ ns.length + 1 < scanBound ∧ ∀ (a : Addr) (c : Nat), H a = none → c ≤ ns.length → Q (.ref a) (upd H a (SetO w a (fun j => decide (j ∈ ns)) c))
theorem cr_setI (hc : X.calm = true) : CallR X (.type "set") (rSetI X.K X.w) := by
  intro pins s σ H xs us Q I r h
  obtain ⟨l, ns, rfl, hq, hb, q⟩ := h
  rw [Vals.ref1 r]
  rcases hq with hq | hq
  · obtain ⟨its, rv, pl, hz⟩ := I.list hq
    refine call_set_listI (P := X.prog) (w := X.w) ns (I.ok.hd hc) pl.isList (ints_of_vals rv) hb fun h' tk c R hc' k => ?_
    exact ⟨.ref s.heap.objs.size, _, I.laid (t' := tk) k (Nat.le_refl _) (setO_new R), rfl, q _ c (I.hok.fresh (Nat.le_refl _)) hc'⟩
  · obtain ⟨its, rv, pt, hz⟩ := I.tuple hq
    refine call_set_tupI (P := X.prog) (w := X.w) ns (I.ok.hd hc) (show s.heap.IsTuple l its.toArray from pt) (ints_of_vals rv) hb fun h' tk c R hc' k => ?_
    exact ⟨.ref s.heap.objs.size, _, I.laid (t' := tk) k (Nat.le_refl _) (setO_new R), rfl, q _ c (I.hok.fresh (Nat.le_refl _)) hc'⟩
/-- two strictly ordered lists of the same members are one -/
theorem lt_ext {β : Type} {r : β → β → Prop} (ha : ∀ x y, r x y → ¬ r y x) : ∀ {xs ys : List β}, xs.Pairwise r → ys.Pairwise r → (∀ k, k ∈ xs ↔ k ∈ ys) → xs = ys
  | [], [], _, _, _ => rfl
  | [], y :: ys, _, _, h => by
    have := (h y).mpr (by simp)
    cases this
  | x :: xs, [], _, _, h => by
    have := (h x).mp (by simp)
    cases this
  | x :: xs, y :: ys, p, q, h => by
    rw [List.pairwise_cons] at p q
    have hr : ∀ z, ¬ r z z := fun z k => ha z z k k
    have e : x = y := by
      have hx := (h x).mp (by simp)
      have hy := (h y).mpr (by simp)
      rcases List.mem_cons.mp hx with e | hx
      · exact e
      · rcases List.mem_cons.mp hy with e | hy
        · exact e.symm
        · exact absurd (p.1 y hy) (ha _ _ (q.1 x hx))
    subst e
    congr 1
    refine lt_ext ha p.2 q.2 fun k => ⟨fun hk => ?_, fun hk => ?_⟩
    · rcases List.mem_cons.mp ((h k).mp (List.mem_cons_of_mem _ hk)) with e | hk'
      · subst e
        exact absurd (p.1 k hk) (hr k)
      · exact hk'
    · rcases List.mem_cons.mp ((h k).mpr (List.mem_cons_of_mem _ hk)) with e | hk'
      · subst e
        exact absurd (q.1 k hk) (hr k)
      · exact hk'
theorem mem_nubI : ∀ {xs : List Int} {k : Int}, k ∈ nubI xs ↔ k ∈ xs
  | [], k => Iff.rfl
  | x :: xs, k => by
    unfold nubI
    split
    · rename_i h
      rw [mem_nubI, List.mem_cons]
      refine ⟨.inr, fun q => q.elim (fun e => ?_) id⟩
      subst e
      exact mem_nubI.mp h
    · rw [List.mem_cons, List.mem_cons, mem_nubI]
theorem nodup_nubI : ∀ (xs : List Int), (nubI xs).Nodup
  | [] => List.nodup_nil
  | x :: xs => by
    unfold nubI
    split
    · exact nodup_nubI xs
    · rename_i h
      exact List.nodup_cons.mpr ⟨h, nodup_nubI xs⟩
theorem sortI_perm (xs : List Int) : (sortI xs).Perm xs := List.mergeSort_perm _ _
theorem sortI_le (xs : List Int) : (sortI xs).Pairwise (· ≤ ·) := by
  have := List.pairwise_mergeSort (le := leI) (fun a b c h1 h2 => by
    unfold leI at *
    simp only [decide_eq_true_eq] at *
    omega) (fun a b => by
    unfold leI
    simp only [Bool.or_eq_true, decide_eq_true_eq]
    omega) xs
  exact this.imp fun h => of_decide_eq_true h
theorem sset_lt (xs : List Int) : (sortI (nubI xs)).Pairwise (· < ·) := by
  have h1 := sortI_le (nubI xs)
  have h2 : (sortI (nubI xs)).Nodup := (sortI_perm _).nodup_iff.mpr (nodup_nubI xs)
  refine (h1.and h2).imp fun h => ?_
  obtain ⟨a, b⟩ := h
  have b : _ ≠ _ := b
  omega
theorem mem_sset (xs : List Int) (k : Int) : k ∈ sortI (nubI xs) ↔ k ∈ xs := by rw [(sortI_perm _).mem_iff, mem_nubI]
/-! rows -/
theorem cod_eq : ∀ r : List Int, TS.code 64 r = codR r
  | [] => rfl
  | d :: r => by
    show d * 64 ^ r.length + TS.code 64 r = d * 64 ^ r.length + codR r
    rw [cod_eq r]
theorem cod_inj : ∀ {a b : List Int}, a.length = b.length → TS.Bd 64 a → TS.Bd 64 b → codR a = codR b → a = b
  | [], [], _, _, _, _ => rfl
  | [], _ :: _, h, _, _, _ => by cases h
  | _ :: _, [], h, _, _, _ => by cases h
  | d :: r, e :: q, h, h1, h2, hc => by
    have hl : r.length = q.length := by simpa using h
    rw [← cod_eq, ← cod_eq] at hc
    have key : d = e := by
      rcases Int.lt_trichotomy d e with w | w | w
      · have := TS.code_lt (B := 64) hl h1.tail h2.tail w
        omega
      · exact w
      · have := TS.code_lt (B := 64) hl.symm h2.tail h1.tail w
        omega
    subst key
    have e1 : TS.code 64 r = TS.code 64 q := by
      have : d * 64 ^ r.length + TS.code 64 r = d * 64 ^ q.length + TS.code 64 q := hc
      rw [hl] at this
      omega
    rw [cod_eq, cod_eq] at e1
    rw [cod_inj hl h1.tail h2.tail e1]
theorem mem_nubR : ∀ {xs : List (List Int)} {k : List Int}, k ∈ nubR xs ↔ k ∈ xs
  | [], k => Iff.rfl
  | x :: xs, k => by
    unfold nubR
    split
    · rename_i h
      rw [mem_nubR, List.mem_cons]
      refine ⟨.inr, fun q => q.elim (fun e => ?_) id⟩
      subst e
      exact mem_nubR.mp h
    · rw [List.mem_cons, List.mem_cons, mem_nubR]
theorem nodup_nubR : ∀ (xs : List (List Int)), (nubR xs).Nodup
  | [] => List.nodup_nil
  | x :: xs => by
    unfold nubR
    split
    · exact nodup_nubR xs
    · rename_i h
      exact List.nodup_cons.mpr ⟨h, nodup_nubR xs⟩
theorem sortC_perm (xs : List (List Int)) : (sortC xs).Perm xs := List.mergeSort_perm _ _
theorem sortC_le (xs : List (List Int)) : (sortC xs).Pairwise (fun a b => codR a ≤ codR b) := by
  have := List.pairwise_mergeSort (le := leC) (fun a b c h1 h2 => by
    unfold leC at *
    simp only [decide_eq_true_eq] at *
    omega) (fun a b => by
    unfold leC
    simp only [Bool.or_eq_true, decide_eq_true_eq]
    omega) xs
  exact this.imp fun h => of_decide_eq_true h
theorem mem_sortC (xs : List (List Int)) (k : List Int) : k ∈ sortC (nubR xs) ↔ k ∈ xs := by rw [(sortC_perm _).mem_iff, mem_nubR]
theorem cod_lt {d : Nat} {xs : List (List Int)} (h : ∀ a ∈ xs, a.length = d ∧ TS.Bd 64 a) (hn : xs.Nodup) (hp : xs.Pairwise fun a b => codR a ≤ codR b) : xs.Pairwise fun a b => codR a < codR b := by
  have := List.Pairwise.and_mem.mp (hp.and hn)
  refine this.imp fun {a b} ⟨ha, hb, h1, h2⟩ => ?_
  have h2 : a ≠ b := h2
  have h3 : codR a ≠ codR b := fun e => h2 (cod_inj ((h a ha).1.trans (h b hb).1.symm) (h a ha).2 (h b hb).2 e)
  omega
theorem rowsOk_of {rs : List (List Int)} (h : rowsOk rs = true) : ∃ d, 1 ≤ d ∧ rs.length < 64 ∧ ∀ a ∈ rs, a.length = d ∧ TS.Bd 64 a := by
  cases rs with
  | nil => cases h
  | cons r s =>
    unfold rowsOk at h
    simp only [Bool.and_eq_true, decide_eq_true_eq] at h
    obtain ⟨⟨h1, h2⟩, h3⟩ := h
    rw [List.all_eq_true] at h3
    refine ⟨r.length, h1, h2, fun a ha => ?_⟩
    have := h3 a ha
    simp only [Bool.and_eq_true, decide_eq_true_eq] at this
    refine ⟨this.1, fun m hm => ?_⟩
    have q := List.all_eq_true.mp this.2 m hm
    simp only [Bool.and_eq_true, decide_eq_true_eq] at q
    exact q
theorem ints_map' : ∀ r : List Int, ints? (r.map .int) = some r
  | [] => rfl
  | i :: r => by
    show (ints? (r.map .int)).map _ = _
    rw [ints_map' r]
    rfl
theorem ks_of_reps {K : PySem.W.Frag} : ∀ {rs : List (List Int)} {vs : List V}, Reps F α K (rs.map Mi.row) vs → ∃ ks : List (Addr × List Int), vs = ks.map (fun p => V.ref p.1) ∧ ks.map (·.2) = rs ∧ ∀ p ∈ ks, TupF F p.1 (p.2.map V.int) ∧ Rep F α K (Mi.row p.2) (.ref p.1)
  | [], vs, h => by
    cases h
    exact ⟨[], rfl, rfl, fun p hp => by cases hp⟩
  | r :: rs, vs, h => by
    obtain ⟨v, w, rfl, h1, h2⟩ := h
    obtain ⟨ks, e1, e2, e3⟩ := ks_of_reps h2
    have h1' := h1
    obtain ⟨a, ws, rfl, f1, h3, h4⟩ := h1
    have ew := (ints_reps (ints_map' r) h3).1
    subst ew
    refine ⟨(a, r) :: ks, by rw [e1]; rfl, by rw [List.map_cons, e2], fun p hp => ?_⟩
    rcases List.mem_cons.mp hp with rfl | hp
    · exact ⟨f1, h1'⟩
    · exact e3 p hp
theorem m_sset (hW : W.Good) (hK : X.K = W.K) (hc : X.calm = true) (hu : X.A.units + 64 < cLine) {x y : Str} {e : Expr} {p p2 pos pos2 : Pos} {ta : En → Mst → R D} (hx : x = "sorted") (hy : y = "set") (hg : Gl X x) (hm : X.mg x = none) (hg2 : Gl X y) (hm2 : X.mg y = none) (he : PE X e (tE W XW true ta)) (hs : noStar e = true) :
    PE X (.Call (.Name x p) [.Call (.Name y p2) [e] [] pos2] [] pos) (tE W XW false (t1 ta (b1D .sset))) := by
  subst hx
  subst hy
  have h1 := pe_callTy (p := p2) (pos := pos2) (CallR.or (cr_setI hc) (cr_setOfT hc hu)) hg2 hm2 boot_set (pa_cons he pa_nil (star_of hs)) (by decide) (by decide) (star_of hs) rfl
  refine PE.imp (pe_callB (CallR.or (cr_sortedSet hc) (cr_sortedT hc)) hg hm boot_sorted (pa_cons h1 pa_nil rfl) (by decide) (by decide) rfl rfl) fun σ H Q ⟨F, α, ρ, M, c, s, h⟩ => ?_
  refine bindE c s h fun F1 α1 H1 M1 x v g1 c1 s1 r1 h1 => ?_
  obtain ⟨d, e, q⟩ := post_of h1
  replace e : ((items x).bind fun xs => match ints? xs with
    | some ns => if ns.length < 64 then some (D.lst ((sortI (nubI ns)).map .int)) else none
    | none => ssetR x) = some d := e
  rw [Option.bind_eq_some_iff] at e
  obtain ⟨ds, e1, e⟩ := e
  split at e
  · rename_i ns e2
    split at e
    · rename_i hl
      cases e
      obtain ⟨a, vs, rfl, h1, h2, h3⟩ := items_cases c1 r1 e1
      obtain ⟨i1, i2⟩ := ints_reps e2 h2
      subst i1
      subst i2
      refine .inl ⟨a, ns, rfl, by rw [hK]; exact h1, by unfold scanBound; omega, fun A n hA hn => ?_⟩
      obtain ⟨c2, g2⟩ := c1.alloc W hW hA (o := SetO X.w A (fun j => decide (j ∈ ns)) n) fun z => z
      refine .inl ⟨A, _, n, rfl, upd_same, by omega, fun ms B h4 h5 h6 hB => ?_⟩
      have em : ms = sortI (nubI ns) := lt_ext (fun x y h k => by omega) h4 (sset_lt ns) fun k => by
        rw [h5, mem_sset]
        simp
      subst em
      refine PQ.lst hW c2 (PQ.grow g2 q) ?_ ?_ hB
      · exact reps_zip (f := D.int) (g := V.int) fun p _ => rfl
      · rw [List.length_map]
        have h7 : (sortI (nubI ns)).length = n := h6
        have h8 : (64 : Nat) ≤ sizeLine := by decide
        omega
    · cases e
  · unfold ssetR at e
    split at e
    · rename_i xs
      rw [Option.bind_eq_some_iff] at e
      obtain ⟨rs, e3, e⟩ := e
      split at e
      · rename_i hr
        cases e
        obtain ⟨dd, d1, d2, d3⟩ := rowsOk_of hr
        obtain ⟨a, vs, rfl, h1, h2, h3⟩ := r1.list c1
        have er := rows_reps e3 h2
        subst er
        obtain ⟨ks, k1, k2, k3⟩ := ks_of_reps h2
        subst k1
        have kl : ks.length = rs.length := by rw [← k2, List.length_map]
        refine .inr ⟨a, ks, rfl, SqL.of h1, fun p hp => by rw [hK]; exact ((k3 p hp).1.mono c1.sub).sq, by omega, fun A L hA hsub hall => ?_⟩
        obtain ⟨c2, g2⟩ := c1.alloc W hW hA (o := SetTO X.prog X.w A L) fun z => z
        have inr : ∀ p ∈ L, p.2 ∈ rs := fun p hp => by
          rw [← k2]
          exact List.mem_map.mpr ⟨p, hsub p hp, rfl⟩
        refine .inr ⟨A, L, dd, 64, rfl, upd_same, fun p hp => by rw [hK]; exact ((k3 p (hsub p hp)).1.mono c2.sub).sq, d1, fun p hp => d3 _ (inr p hp), fun L' B pm nd lt pw hB => ?_⟩
        have inL : ∀ p ∈ L', p ∈ ks := fun p hp => hsub p (pm.mem_iff.mp hp)
        have em : L'.map (·.2) = sortC (nubR rs) := by
          refine lt_ext (r := fun a b => codR a < codR b) (fun x y h k => by omega) (cod_lt (d := dd) (fun a ha => ?_) nd ?_) (cod_lt (d := dd) (fun a ha => d3 a ((mem_sortC _ _).mp ha)) ((sortC_perm _).nodup_iff.mpr (nodup_nubR _)) (sortC_le _)) fun k => ?_
          · obtain ⟨p, hp, rfl⟩ := List.mem_map.mp ha
            exact d3 _ (inr p (pm.mem_iff.mp hp))
          · rw [List.pairwise_map]
            exact pw.imp fun h => by rw [← cod_eq, ← cod_eq]; exact h
          · rw [mem_sortC]
            constructor
            · intro hk
              obtain ⟨p, hp, rfl⟩ := List.mem_map.mp hk
              exact inr p (pm.mem_iff.mp hp)
            · intro hk
              rw [← k2] at hk
              obtain ⟨p, hp, rfl⟩ := List.mem_map.mp hk
              obtain ⟨q, hq, e⟩ := List.mem_map.mp (hall p hp)
              exact List.mem_map.mpr ⟨q, pm.mem_iff.mpr hq, e⟩
        rw [← em, List.map_map] at q
        refine PQ.lst hW c2 (PQ.grow g2 q) ?_ ?_ hB
        · exact reps_zip (f := fun p : Addr × List Int => Mi.row p.2) (g := fun p => V.ref p.1) fun p hp => g2.rep (k3 p (inL p hp)).2
        · rw [List.length_map]
          have h8 : (64 : Nat) ≤ sizeLine := by decide
          omega
      · cases e
    · cases e
/-! ### list(range(..)), tuple(range(..)) -/
theorem reps_rg {a b' : Int} : Reps F α W.K (rngI a b') (rgV a b') := by
  unfold rngI rgV
  exact reps_zip (f := fun i : Nat => D.int (a + i)) (g := fun i : Nat => V.int (a + i)) fun p _ => rfl
theorem PRg.imp {e : Expr} {t t' : L2.St → Hp → (Int → Int → Hp → Prop) → Prop} (h : PRg X e t) (k : ∀ σ H Q, t' σ H Q → t σ H Q) : PRg X e t' := fun pins s σ H Q I q => h pins s σ H Q I (k σ H Q q)
def postR (W : Wd) (X : L2.WX) (F : Hp) (α : List Addr) (σ : L2.St) (H : Hp) (Q : Int → Int → Hp → Prop) : R (List D) → Prop
  | .ok ds M' => ∀ F' α' H' a b, Grow O0 F α H F' α' H' → CM W F' α' M' H' → ds = rngI a b → rngOk a b = true → Q a b H'
  | .exc c M' => PX W X F α σ H c M'
  | .stuck => False
def tRgI (W : Wd) (X : L2.WX) (t : En → Mst → R (List D)) : L2.St → Hp → (Int → Int → Hp → Prop) → Prop := fun σ H Q => ∃ F α ρ M, CM W F α M H ∧ SL W F α H ρ σ ∧ postR W X F α σ H Q (t ρ M)
theorem rg_post {K : Int → Int → Hp → Prop} {a b' : Int} (c : CM W F α M H) (h : postR W XW F α σ H K (R.of (if rngOk a b' then some (rngI a b') else none) M)) : K a b' H := by
  by_cases hr : rngOk a b' = true
  · rw [if_pos hr] at h
    exact h F α H a b' Grow.refl c rfl hr
  · rw [if_neg hr] at h
    exact h.elim
theorem postR.grow {K : Int → Int → Hp → Prop} {r : R (List D)} (g : Grow O0 F α H F' α' H') (h : postR W XW F α σ H K r) : postR W XW F' α' σ H' K r := by
  cases r with
  | ok ds M => exact fun F2 α2 H2 a b g2 c => h F2 α2 H2 a b (g.trans0 g2) c
  | exc c M => exact fun F2 α2 H2 g2 c => h F2 α2 H2 (g.trans0 g2) c
  | stuck => exact h
theorem bindR {ta : En → Mst → R D} {f : D → Mst → R (List D)} {Q : Int → Int → Hp → Prop} {K : V → Hp → Prop} {b' : Bool} (c : CM W F α M H) (s : SL W F α H ρ σ) (h : postR W XW F α σ H Q ((ta ρ M).bind f))
    (k : ∀ F1 α1 H1 M1 x v, Grow O0 F α H F1 α1 H1 → CM W F1 α1 M1 H1 → SL W F1 α1 H1 ρ σ → RepB W b' F1 α1 H1 x v → postR W XW F1 α1 σ H1 Q (f x M1) → K v H1) : tE W XW b' ta σ H K := by
  refine ⟨F, α, ρ, M, c, s, ?_⟩
  cases e : ta ρ M with
  | ok x M1 =>
    rw [e] at h
    exact fun F1 α1 H1 v g c1 r => k F1 α1 H1 M1 x v g c1 (s.grow g) r (h.grow g)
  | exc n M1 =>
    rw [e] at h
    exact h
  | stuck =>
    rw [e] at h
    exact h
theorem m_prg1 {e : Expr} {p pos : Pos} {ta : En → Mst → R D} (hg : Gl X "range") (hm : X.mg "range" = none) (he : PE X e (tE W XW true ta)) (hs : noStar e = true) :
    PRg X (.Call (.Name "range" p) [e] [] pos) (tRgI W XW fun ρ M => (ta ρ M).bind fun x M => R.of ((intOf? x).bind fun b => if rngOk 0 b then some (rngI 0 b) else none) M) :=
  PRg.imp (prg_1 hg hm he (star_of hs)) fun σ H K ⟨F, α, ρ, M, c, s, h⟩ => by
    refine bindR c s h fun F1 α1 H1 M1 x v g1 c1 s1 r1 h1 => ?_
    cases x with
    | int j =>
      cases r1.int
      exact ⟨j, rfl, rg_post c1 h1⟩
    | _ => exact h1.elim
theorem m_prg2 {e e2 : Expr} {p pos : Pos} {ta tb : En → Mst → R D} (hg : Gl X "range") (hm : X.mg "range" = none) (he : PE X e (tE W XW true ta)) (he2 : PE X e2 (tE W XW true tb)) (hs : noStar e = true) (hs2 : noStar e2 = true) :
    PRg X (.Call (.Name "range" p) [e, e2] [] pos) (tRgI W XW fun ρ M => (ta ρ M).bind fun x M => (tb ρ M).bind fun y M => R.of ((intOf? x).bind fun a => (intOf? y).bind fun b => if rngOk a b then some (rngI a b) else none) M) :=
  PRg.imp (prg_2 hg hm he he2 (star_of hs) (star_of hs2) (backTo_star (by rw [List.all_cons, hs2]; rfl))) fun σ H K ⟨F, α, ρ, M, c, s, h⟩ => by
    refine bindR c s h fun F1 α1 H1 M1 x v g1 c1 s1 r1 h1 => ?_
    refine bindR c1 s1 h1 fun F2 α2 H2 M2 y u g2 c2 s2 r2 h2 => ?_
    replace r1 := r1.grow g2
    cases x with
    | int i =>
      cases r1.int
      cases y with
      | int j =>
        cases r2.int
        exact ⟨i, j, rfl, rfl, rg_post c2 h2⟩
      | _ => exact h2.elim
    | _ => exact h2.elim
theorem m_lrg (hW : W.Good) (hc : X.calm = true) {x : Str} {e : Expr} {p pos : Pos} {ti : En → Mst → R (List D)} (hx : x = "list") (hg : Gl X x) (hm : X.mg x = none) (he : PRg X e (tRgI W XW ti)) (hs : noStar e = true) :
    PE X (.Call (.Name x p) [e] [] pos) (tE W XW false fun ρ M => (ti ρ M).bind fun xs M => .ok (.lst xs) M) := by
  subst hx
  refine PE.imp (pe_listRg hc hg hm he (star_of hs)) fun σ H Q ⟨F, α, ρ, M, c, s, h⟩ => ?_
  refine ⟨F, α, ρ, M, c, s, ?_⟩
  dsimp only at h
  cases e : ti ρ M with
  | ok ds M1 =>
    rw [e] at h
    rintro F1 α1 H1 a b g1 c1 rfl ho
    obtain ⟨h1, h2, h3, h4, h5⟩ := rngOk_get ho
    refine ⟨⟨h1, h2, h3, h4, h5⟩, fun q hq => ?_⟩
    exact PQ.lst hW c1 (PQ.grow g1 h) reps_rg (by rw [rngI_len]; exact line_eq ▸ h5) hq
  | exc n M1 =>
    rw [e] at h
    exact h
  | stuck =>
    rw [e] at h
    exact h
theorem m_trg (hW : W.Good) (hc : X.calm = true) {x : Str} {e : Expr} {p pos : Pos} {ti : En → Mst → R (List D)} (hx : x = "tuple") (hg : Gl X x) (hm : X.mg x = none) (he : PRg X e (tRgI W XW ti)) (hs : noStar e = true) :
    PE X (.Call (.Name x p) [e] [] pos) (tE W XW false fun ρ M => (ti ρ M).bind fun xs M => .ok (.tup xs) M) := by
  subst hx
  refine PE.imp (pe_tupRg hc hg hm he (star_of hs)) fun σ H Q ⟨F, α, ρ, M, c, s, h⟩ => ?_
  refine ⟨F, α, ρ, M, c, s, ?_⟩
  dsimp only at h
  cases e : ti ρ M with
  | ok ds M1 =>
    rw [e] at h
    rintro F1 α1 H1 a b g1 c1 rfl ho
    obtain ⟨h1, h2, h3, h4, h5⟩ := rngOk_get ho
    refine ⟨⟨h1, h2, h3, h4, h5⟩, fun q hq => ?_⟩
    exact PQ.tup hW c1 (PQ.grow g1 h) reps_rg (by rw [rngI_len]; exact line_eq ▸ h5) hq
  | exc n M1 =>
    rw [e] at h
    exact h
  | stuck =>
    rw [e] at h
    exact h
end
end Mi
end
section
set_option Elab.async false
set_option autoImplicit false
set_option linter.all false
set_option maxRecDepth 100000
set_option maxHeartbeats 4000000
namespace Mi
open PySem PySem.Spec PyProof.Rows L2
section
variable {W : Wd} {XW : L2.WX} {b : Bool} {F F' F2 H H' H2 : Hp} {α α' α2 : List Addr} {M M' : Mst} {ρ ρ' : En} {σ : L2.St} {d : D} {v : V} {X : Cx} {tg : Expr} {Q : VK}
theorem enumD_get {ds : List D} {i : Nat} {x : D} (h : ds[i]? = some x) : (enumD ds)[i]? = some (.tup [.int (i : Nat), x]) := by
  unfold enumD
  rw [List.getElem?_map, List.getElem?_zipIdx, h]
  simp
theorem enumD_len {ds : List D} : (enumD ds).length = ds.length := by
  unfold enumD
  rw [List.length_map, List.length_zipIdx]
theorem m_enum (hW : W.Good) (hK : X.K = W.K) {e : Expr} {p pos tpos : Pos} {elts : List Expr} {kk : Nat} {ta : En → Mst → R D} (hg : Gl X "enumerate") (hm : X.mg "enumerate" = none) (he : PE X e (tE W XW false ta)) (hs : noStar e = true) :
    PI X (.Tuple elts kk tpos) (.Call (.Name "enumerate" p) [e] [] pos) (tI W XW b fun ρ M => (ta ρ M).bind fun x M => R.of (match x with
      | .lst xs => some (enumD xs)
      | _ => none) M) :=
  PI.imp (pi_enum hg hm (pa_cons he pa_nil (star_of hs)) (by rw [star_of hs]; rfl)) fun σ H R' ⟨F, α, ρ, M, c, s, h⟩ => by
    refine bindI c s h fun F1 α1 H1 M1 x v g1 c1 s1 r1 h1 => ?_
    obtain ⟨ds, e, q⟩ := postI_of h1
    rw [hK]
    cases x with
    | lst xs =>
      cases e
      obtain ⟨a, vs, rfl, h2, h3, h4⟩ := r1.strict
      refine ⟨a, vs, rfl, .inl (.inl (c1.sub _ _ h2)), q F1 α1 H1 _ Grow.refl c1 ⟨by rw [enumD_len]; exact h4, fun _ => False, _, fun _ _ z => z, fun _ z => z.elim, ⟨?_, ypair hW (fx := fun i => some (.int (i : Nat))) (fy := fun i => vs[i]?) fun i x y hi ex ey => ?_⟩⟩⟩
      · rw [enumD_len, ← h3.length]
        exact walk_enum.mono (fun H3 h => .inl (.inl (h.sub _ _ h2))) fun _ _ _ _ _ _ y => y
      · cases ex
        obtain ⟨d2, f3, f4⟩ := h3.get' ey
        exact ⟨.int (i : Nat), d2, enumD_get f3, rfl, f4⟩
    | _ => cases e
theorem m_rng3 {e e2 e3 : Expr} {p pos : Pos} {ta tb tc : En → Mst → R D} (hg : Gl X "range") (hm : X.mg "range" = none) (he : PE X e (tE W XW true ta)) (he2 : PE X e2 (tE W XW true tb)) (he3 : PE X e3 (tE W XW true tc)) (hs : noStar e = true) (hs2 : noStar e2 = true) (hs3 : noStar e3 = true) :
    PI X tg (.Call (.Name "range" p) [e, e2, e3] [] pos) (tI W XW b fun ρ M => (ta ρ M).bind fun x M => (tb ρ M).bind fun y M => (tc ρ M).bind fun z M => R.of ((intOf? x).bind fun a => (intOf? y).bind fun b => (intOf? z).bind fun c => (rngC a b c).bind fun xs => if xs.length ≤ line then some xs else none) M) :=
  PI.imp (pi_range3 hg hm (pa_cons he (pa_cons he2 (pa_cons he3 pa_nil (star_of hs3)) (star_of hs2)) (star_of hs)) (star_of hs) (backTo_star (by rw [List.all_cons, hs2, List.all_cons, hs3]; rfl))) fun σ H R' ⟨F, α, ρ, M, c, s, h⟩ => by
    refine bindI c s h fun F1 α1 H1 M1 x v g1 c1 s1 r1 h1 => ?_
    refine bindI c1 s1 h1 fun F2 α2 H2 M2 y u g2 c2 s2 r2 h2 => ?_
    refine bindI c2 s2 h2 fun F3 α3 H3 M3 z w g3 c3 s3 r3 h3 => ?_
    obtain ⟨ds, e, q⟩ := postI_of h3
    replace r1 := r1.grow (g2.trans0 g3)
    replace r2 := r2.grow g3
    cases x with
    | int i =>
      cases r1.int
      cases y with
      | int j =>
        cases r2.int
        cases z with
        | int k =>
          cases r3.int
          replace e : ((rngC i j k).bind fun xs => if xs.length ≤ line then some xs else none) = some ds := e
          rw [Option.bind_eq_some_iff] at e
          obtain ⟨xs, e1, e2⟩ := e
          split at e2
          · rename_i hl
            cases e2
            unfold rngC at e1
            split at e1
            · rename_i hr
              cases e1
              obtain ⟨q1, q2, q3, q4⟩ := hr
              refine ⟨i, j, k, _, rfl, ⟨q1, q2, q3, q4⟩, q F3 α3 H3 _ Grow.refl c3 ?_⟩
              refine it_fn (f := fun n => .int (i + (n : Nat) * k)) ?_ (fun n hn => ?_) (line_eq ▸ hl)
              · rw [List.length_map, List.length_range]
                exact walk_rangeC
              · rw [List.length_map, List.length_range] at hn
                refine ⟨.int (i + (n : Nat) * k), by rw [List.getElem?_map, List.getElem?_range hn]; rfl, fun _ _ => rfl⟩
            · cases e1
          · cases e2
        | _ => cases e
      | _ => cases e
    | _ => cases e
theorem signs_get {s : Str} {i : Nat} {c : Nat} (h : s.cps[i]? = some c) : (signs s)[i]? = some (.str ⟨#[c]⟩) := by
  unfold signs
  rw [List.getElem?_map, Array.getElem?_toList, h]
  rfl
theorem signs_len {s : Str} : (signs s).length = s.cps.size := by
  unfold signs
  rw [List.length_map, Array.length_toList]
theorem m_txt {e : Expr} {ta : En → Mst → R D} (he : PE X e (tE W XW false ta)) : PI X tg e (tI W XW b fun ρ M => (ta ρ M).bind fun x M => R.of ((strOf? x).bind fun s => if s.length ≤ line then some (signs s) else none) M) :=
  PI.imp (pi_str he) fun σ H R' ⟨F, α, ρ, M, c, s, h⟩ => by
    refine bindI c s h fun F1 α1 H1 M1 x v g1 c1 s1 r1 h1 => ?_
    obtain ⟨ds, e, q⟩ := postI_of h1
    cases x with
    | str z =>
      cases r1.str
      replace e : (if z.length ≤ line then some (signs z) else none) = some ds := e
      split at e
      · rename_i hl
        cases e
        refine ⟨z, rfl, q F1 α1 H1 _ Grow.refl c1 ⟨by rw [signs_len]; exact line_eq ▸ hl, fun _ => False, fun i H2 v H3 => H3 = H2 ∧ ∃ c, z.cps[i]? = some c ∧ v = .str ⟨#[c]⟩, fun _ _ z => z, fun _ z => z.elim, ⟨?_, ?_⟩⟩⟩
        · rw [signs_len]
          exact walk_str.mono (fun _ _ => trivial) fun _ _ _ _ _ _ y => y
        · rintro i H2 v H3 O F2 α2 M2 g _ c2 hi ⟨rfl, k, e1, rfl⟩
          exact ⟨F2, _, signs_get e1, c2, Grow.refl, rfl⟩
      · cases e
    | _ => cases e
theorem m_lset (hK : X.K = W.K) (hc : X.calm = true) {x y : Str} {e : Expr} {p p2 pos pos2 : Pos} {ta : En → Mst → R D} (hx : x = "len") (hy : y = "set") (hg : Gl X x) (hm : X.mg x = none) (hg2 : Gl X y) (hm2 : X.mg y = none) (he : PE X e (tE W XW true ta)) (hs : noStar e = true) :
    PE X (.Call (.Name x p) [.Call (.Name y p2) [e] [] pos2] [] pos) (tE W XW false (t1 ta (b1D .lset))) := by
  subst hx
  subst hy
  refine PE.imp (L2.pe_lenSetI hc hg hm hg2 hm2 he (star_of hs)) fun σ H Q ⟨F, α, ρ, M, c, s, h⟩ => ?_
  refine bindE c s h fun F1 α1 H1 M1 x v g1 c1 s1 r1 h1 => ?_
  obtain ⟨d, e, q⟩ := post_of h1
  unfold b1D at e
  dsimp only at e
  split at e
  · rename_i xs
    rw [Option.bind_eq_some_iff] at e
    obtain ⟨ns, e2, e⟩ := e
    split at e
    · rename_i hl
      cases e
      obtain ⟨a, vs, rfl, h5, h2, h3⟩ := r1.list c1
      obtain ⟨i1, i2⟩ := ints_reps e2 h2
      subst i1
      subst i2
      exact ⟨a, ns, rfl, by rw [hK]; exact .inl (.inl h5), hl.1, hl.2, q.int c1⟩
    · cases e
  · cases e
end
end Mi
end
section
set_option Elab.async false
set_option autoImplicit false
set_option linter.all false
set_option maxRecDepth 100000
set_option maxHeartbeats 4000000
namespace Mi
open PySem PySem.Spec PyProof.Rows L2
/-! ### statements -/
/-- behind a statement: from the start F, α, H with the places ρ, σ -/
structure After (W : Wd) (F : Hp) (α : List Addr) (H : Hp) (ρ : En) (σ : L2.St) (F' : Hp) (α' : List Addr) (H' : Hp) (M' : Mst) : Prop where
  g : Grow (OwnA σ ρ) F α H F' α' H'
  c : CM W F' α' M' H'
structure AfterS (W : Wd) (F : Hp) (α : List Addr) (H : Hp) (ρ : En) (σ : L2.St) (F' : Hp) (α' : List Addr) (H' : Hp) (M' : Mst) (ρ' : En) (σ' : L2.St) : Prop extends After W F α H ρ σ F' α' H' M' where
  s : SL W F' α' H' ρ' σ'
  o : ∀ p, OwnA σ' ρ' p → OwnA σ ρ p ∨ Fre H p
def postS (W : Wd) (X : L2.WX) (F : Hp) (α : List Addr) (H : Hp) (ρ : En) (σ : L2.St) (E : Ends) : SR → Prop
  | .nx ρ' M' => ∀ F' α' H' σ', AfterS W F α H ρ σ F' α' H' M' ρ' σ' → E.nx σ' H'
  | .rt d M' => ∀ F' α' H' v, After W F α H ρ σ F' α' H' M' → Rep F' α' W.K d v → E.rt v H'
  | .bk ρ' M' => ∀ F' α' H' σ', AfterS W F α H ρ σ F' α' H' M' ρ' σ' → E.bk σ' H'
  | .ct ρ' M' => ∀ F' α' H' σ', AfterS W F α H ρ σ F' α' H' M' ρ' σ' → E.ct σ' H'
  | .exc c M' => ∀ F' α' H' σ', After W F α H ρ σ F' α' H' M' → X (.ref (W.ca c)) none σ' H'
  | .stuck => False
def tS (W : Wd) (X : L2.WX) (t : En → Mst → SR) : TS := fun E σ H => ∃ F α ρ M, CM W F α M H ∧ SL W F α H ρ σ ∧ postS W X F α H ρ σ E (t ρ M)
section
variable {W : Wd} {XW : L2.WX} {b : Bool} {F F' F1 F2 H H' H1 H2 : Hp} {α α' α1 α2 : List Addr} {M M' M1 M2 : Mst} {ρ ρ' ρ1 : En} {σ σ' σ1 : L2.St} {d : D} {v : V} {X : Cx} {tg : Expr} {E : Ends}
theorem AfterS.here (c : CM W F α M H) (s : SL W F α H ρ σ) : AfterS W F α H ρ σ F α H M ρ σ := ⟨⟨Grow.refl, c⟩, s, fun p h => .inl h⟩
theorem AfterS.then_ (a : AfterS W F α H ρ σ F1 α1 H1 M1 ρ1 σ1) (a2 : After W F1 α1 H1 ρ1 σ1 F2 α2 H2 M2) : After W F α H ρ σ F2 α2 H2 M2 := ⟨a.g.trans a2.g a.o, a2.c⟩
theorem AfterS.thenS {ρ2 : En} {σ2 : L2.St} (a : AfterS W F α H ρ σ F1 α1 H1 M1 ρ1 σ1) (a2 : AfterS W F1 α1 H1 ρ1 σ1 F2 α2 H2 M2 ρ2 σ2) : AfterS W F α H ρ σ F2 α2 H2 M2 ρ2 σ2 :=
  ⟨a.then_ a2.toAfter, a2.s, fun p h => (a2.o p h).elim (a.o p) fun f => .inr (a.g.fre f)⟩
theorem AfterS.grow (g : Grow O0 F α H F' α' H') (a : AfterS W F' α' H' ρ σ F2 α2 H2 M2 ρ' σ') : AfterS W F α H ρ σ F2 α2 H2 M2 ρ' σ' :=
  ⟨⟨(g.weak fun _ z => z.elim).trans a.g fun _ h => .inl h, a.c⟩, a.s, fun p h => (a.o p h).imp id g.fre⟩
theorem After.grow (g : Grow O0 F α H F' α' H') (a : After W F' α' H' ρ σ F2 α2 H2 M2) : After W F α H ρ σ F2 α2 H2 M2 := ⟨(g.weak fun _ z => z.elim).trans a.g fun _ h => .inl h, a.c⟩
theorem postS.grow {r : SR} (g : Grow O0 F α H F' α' H') (h : postS W XW F α H ρ σ E r) : postS W XW F' α' H' ρ σ E r := by
  cases r with
  | nx ρ' M => exact fun F2 α2 H2 σ2 a => h F2 α2 H2 σ2 (a.grow g)
  | rt d M => exact fun F2 α2 H2 v a => h F2 α2 H2 v (a.grow g)
  | bk ρ' M => exact fun F2 α2 H2 σ2 a => h F2 α2 H2 σ2 (a.grow g)
  | ct ρ' M => exact fun F2 α2 H2 σ2 a => h F2 α2 H2 σ2 (a.grow g)
  | exc c M => exact fun F2 α2 H2 σ2 a => h F2 α2 H2 σ2 (a.grow g)
  | stuck => exact h
/-- what stands behind a statement's start stands behind a later one -/
theorem postS.behind {r : SR} (a : AfterS W F α H ρ σ F1 α1 H1 M1 ρ1 σ1) (h : postS W XW F α H ρ σ E r) : postS W XW F1 α1 H1 ρ1 σ1 E r := by
  cases r with
  | nx ρ' M => exact fun F2 α2 H2 σ2 b => h F2 α2 H2 σ2 (a.thenS b)
  | rt d M => exact fun F2 α2 H2 v b => h F2 α2 H2 v (a.then_ b)
  | bk ρ' M => exact fun F2 α2 H2 σ2 b => h F2 α2 H2 σ2 (a.thenS b)
  | ct ρ' M => exact fun F2 α2 H2 σ2 b => h F2 α2 H2 σ2 (a.thenS b)
  | exc c M => exact fun F2 α2 H2 σ2 b => h F2 α2 H2 σ2 (a.then_ b)
  | stuck => exact h
theorem PS.imp {st : Stmt} {t t' : TS} (h : PS X st t) (k : ∀ E σ H, t' E σ H → t E σ H) : PS X st t' := ⟨fun pins s σ H D I q => h.run pins s σ H D I (k D σ H q)⟩
theorem PSs.imp {st : List Stmt} {t t' : TS} (h : PSs X st t) (k : ∀ E σ H, t' E σ H → t E σ H) : PSs X st t' := ⟨fun pins s σ H D I q => h.run pins s σ H D I (k D σ H q)⟩
theorem exc_of {n : Nat} (h : postS W XW F α H ρ σ E (.exc n M)) : PX W XW F α σ H n M := fun F' α' H' g c => h F' α' H' σ ⟨g.weak fun _ z => z.elim, c⟩
theorem bindS {ta : En → Mst → R D} {f : D → Mst → SR} {K : V → Hp → Prop} {b' : Bool} (c : CM W F α M H) (s : SL W F α H ρ σ) (h : postS W XW F α H ρ σ E ((ta ρ M).toS f))
    (k : ∀ F1 α1 H1 M1 x v, Grow O0 F α H F1 α1 H1 → CM W F1 α1 M1 H1 → SL W F1 α1 H1 ρ σ → RepB W b' F1 α1 H1 x v → postS W XW F1 α1 H1 ρ σ E (f x M1) → K v H1) : tE W XW b' ta σ H K := by
  refine ⟨F, α, ρ, M, c, s, ?_⟩
  cases e : ta ρ M with
  | ok x M1 =>
    rw [e] at h
    exact fun F1 α1 H1 v g c1 r => k F1 α1 H1 M1 x v g c1 (s.grow g) r (h.grow g)
  | exc n M1 =>
    rw [e] at h
    exact exc_of h
  | stuck =>
    rw [e] at h
    exact h
theorem bindST {ta : En → Mst → R D} {fa fb : Mst → SR} {K : Bool → Hp → Prop} (c : CM W F α M H) (s : SL W F α H ρ σ) (h : postS W XW F α H ρ σ E ((ta ρ M).toS fun x M => match x with
      | .bl true => fa M
      | .bl false => fb M
      | _ => .stuck))
    (k : ∀ F1 α1 H1 M1 k, Grow O0 F α H F1 α1 H1 → CM W F1 α1 M1 H1 → SL W F1 α1 H1 ρ σ → postS W XW F1 α1 H1 ρ σ E (if k then fa M1 else fb M1) → K k H1) : tT W XW ta σ H K := by
  refine ⟨F, α, ρ, M, c, s, ?_⟩
  cases e : ta ρ M with
  | ok x M1 =>
    rw [e] at h
    cases x with
    | bl k' =>
      refine ⟨k', rfl, fun F1 α1 H1 g c1 => k F1 α1 H1 M1 k' g c1 (s.grow g) ?_⟩
      cases k' with
      | true => exact postS.grow g h
      | false => exact postS.grow g h
    | _ => exact h.elim
  | exc n M1 =>
    rw [e] at h
    exact exc_of h
  | stuck =>
    rw [e] at h
    exact h
/-! sequences -/
theorem s_nil : PSs X [] (tS W XW fun ρ M => .nx ρ M) := PSs.imp pss_nil fun E σ H ⟨F, α, ρ, M, c, s, h⟩ => h F α H σ (.here c s)
theorem seq_post {t : SR} {u : En → Mst → SR} (h : postS W XW F α H ρ σ E (t.seq u)) : postS W XW F α H ρ σ { E with nx := tS W XW u E } t := by
  cases t with
  | nx ρ' M => exact fun F2 α2 H2 σ2 a => ⟨F2, α2, ρ', M, a.c, a.s, postS.behind a h⟩
  | rt d M => exact h
  | bk ρ' M => exact h
  | ct ρ' M => exact h
  | exc c M => exact h
  | stuck => exact h
theorem s_cons {st : Stmt} {rest : List Stmt} {t u : En → Mst → SR} (h1 : PS X st (tS W XW t)) (h2 : PSs X rest (tS W XW u)) : PSs X (st :: rest) (tS W XW fun ρ M => (t ρ M).seq u) :=
  PSs.imp (pss_cons h1 h2) fun E σ H ⟨F, α, ρ, M, c, s, h⟩ => ⟨F, α, ρ, M, c, s, seq_post h⟩
/-- nothing in the text stands for it -/
theorem s_ghost {rest : List Stmt} {t u : En → Mst → SR} (h2 : PSs X rest (tS W XW u)) (hg : ∀ E σ H, tS W XW t E σ H → E.nx σ H) : PSs X rest (tS W XW fun ρ M => (t ρ M).seq u) :=
  PSs.imp h2 fun E σ H ⟨F, α, ρ, M, c, s, h⟩ => hg { E with nx := tS W XW u E } σ H ⟨F, α, ρ, M, c, s, seq_post h⟩
theorem g_frz {i : Nat} : ∀ E σ H, tS W XW (fun ρ M => match ρ[i]? with
    | some (.own xs) => .nx (ρ.set i (.v (.lst xs))) M
    | some (.v _) => .nx ρ M
    | _ => .stuck) E σ H → E.nx σ H := fun E σ H ⟨F, α, ρ, M, c, s, h⟩ => by
  cases e : ρ[i]? with
  | none =>
    simp only [e] at h
    exact h.elim
  | some sl =>
    cases sl with
    | own ds =>
      simp only [e] at h
      obtain ⟨p, vs, e1, h1⟩ := s.at_ i _ e
      have o : Own W F α H ds p := ⟨vs, h1⟩
      obtain ⟨F', c2, g2, r2⟩ := o.frz c
      have hown : OwnAt σ ρ i p := ⟨e1, _, e, rfl⟩
      have gO : Grow (OwnA σ ρ) F α H F' α H := g2.weak fun a z => by
        subst z
        exact ⟨i, hown⟩
      refine h F' α H σ ⟨⟨gO, c2⟩, ?_, fun q hq => .inl ?_⟩
      · have hi : i < ρ.length := (List.getElem?_eq_some_iff.mp e).1
        refine ⟨by simpa using s.len, fun j sl ej => ?_, fun j k q hj hk => ?_⟩
        · by_cases hij : i = j
          · subst hij
            rw [List.getElem?_set_self hi] at ej
            cases ej
            exact ⟨.ref p, e1, r2⟩
          · rw [List.getElem?_set_ne hij] at ej
            refine (s.at_ j _ ej).grow g2 fun q eq m z => ?_
            subst z
            exact hij (s.dis i j q hown ⟨eq, _, ej, m⟩)
        · have key : ∀ j, OwnAt σ (ρ.set i (.v (.lst ds))) j q → OwnAt σ ρ j q := fun j ⟨f1, t, f2, m⟩ => by
            by_cases hij : i = j
            · subst hij
              rw [List.getElem?_set_self hi] at f2
              cases f2
              cases m
            · rw [List.getElem?_set_ne hij] at f2
              exact ⟨f1, t, f2, m⟩
          exact s.dis j k q (key j hj) (key k hk)
      · obtain ⟨j, f1, t, f2, m⟩ := hq
        have hi : i < ρ.length := (List.getElem?_eq_some_iff.mp e).1
        by_cases hij : i = j
        · subst hij
          rw [List.getElem?_set_self hi] at f2
          cases f2
          cases m
        · rw [List.getElem?_set_ne hij] at f2
          exact ⟨j, f1, t, f2, m⟩
    | no =>
      simp only [e] at h
      exact h.elim
    | v _ =>
      simp only [e] at h
      exact h F α H σ (.here c s)
    | di _ =>
      simp only [e] at h
      exact h.elim
    | dt _ =>
      simp only [e] at h
      exact h.elim
    | dz _ =>
      simp only [e] at h
      exact h.elim
/-! simple statements -/
theorem s_pass {pos : Pos} : PS X (.Pass pos) (tS W XW fun ρ M => .nx ρ M) := PS.imp ps_pass fun E σ H ⟨F, α, ρ, M, c, s, h⟩ => h F α H σ (.here c s)
theorem s_ex {e : Expr} {pos : Pos} {ta : En → Mst → R D} (he : PE X e (tE W XW b ta)) (hn : noComp e = true) : PS X (.Expr e pos) (tS W XW fun ρ M => (ta ρ M).toS fun _ M => .nx ρ M) :=
  PS.imp (ps_expr he (sw_of hn)) fun E σ H ⟨F, α, ρ, M, c, s, h⟩ => by
    refine bindS c s h fun F1 α1 H1 M1 x v g1 c1 s1 r1 h1 => ?_
    exact h1 F1 α1 H1 σ (.here c1 s1)
theorem s_ret {e : Expr} {pos : Pos} {ta : En → Mst → R D} (he : PE X e (tE W XW false ta)) : PS X (.Return (some e) pos) (tS W XW fun ρ M => (ta ρ M).toS fun d M => .rt d M) :=
  PS.imp (ps_ret he) fun E σ H ⟨F, α, ρ, M, c, s, h⟩ => by
    refine bindS c s h fun F1 α1 H1 M1 x v g1 c1 s1 r1 h1 => ?_
    exact h1 F1 α1 H1 v ⟨Grow.refl, c1⟩ r1.strict
theorem s_retN {pos : Pos} : PS X (.Return none pos) (tS W XW fun _ M => .rt .non M) :=
  PS.imp ps_retN fun E σ H ⟨F, α, ρ, M, c, s, h⟩ => h F α H .non ⟨Grow.refl, c⟩ rfl
theorem s_rai {e : Expr} {k : Nat} {pos : Pos} (hc : X.calm = true) (tk : L2N.Takes X XW) (he : L2N.PMk X e (fun _ H Q => Q (.ref (W.ca k)) none H)) : PS X (.Raise (some e) none pos) (tS W XW fun _ M => .exc k M) :=
  PS.imp (L2N.ps_raise hc tk he) fun E σ H ⟨F, α, ρ, M, c, s, h⟩ => h F α H σ ⟨Grow.refl, c⟩
theorem s_if {e : Expr} {p q : List Stmt} {pos : Pos} {tc : En → Mst → R D} {t u : En → Mst → SR} (hc : PT X e (tT W XW tc)) (ha : PSs X p (tS W XW t)) (hb : PSs X q (tS W XW u)) :
    PS X (.If e p q pos) (tS W XW fun ρ M => (tc ρ M).toS fun x M => match x with
      | .bl true => t ρ M
      | .bl false => u ρ M
      | _ => .stuck) := PS.imp (ps_if hc ha hb) fun E σ H ⟨F, α, ρ, M, c, s, h⟩ => by
  refine bindST c s h fun F1 α1 H1 M1 k g1 c1 s1 h1 => ?_
  cases k with
  | true => exact ⟨F1, α1, ρ, M1, c1, s1, h1⟩
  | false => exact ⟨F1, α1, ρ, M1, c1, s1, h1⟩
/-! name = value -/
theorem set_after {i : Nat} {v : V} {d : D} (c : CM W F α M H) (s : SL W F α H ρ σ) (r : Rep F α W.K d v) : AfterS W F α H ρ σ F α H M (ρ.set i (.v d)) (σ.set i (some v)) :=
  ⟨⟨Grow.refl, c⟩, s.setV r, fun p h => .inl (own_setV h)⟩
theorem s_set {e tg : Expr} {i : Nat} {pos : Pos} {ta : En → Mst → R D} {te : TE} (hp : PS X (.Assign [tg] e pos) (tAsg te (gName i))) (ht : ∀ σ H Q, tE W XW false ta σ H Q → te σ H Q) : PS X (.Assign [tg] e pos) (tS W XW fun ρ M => (ta ρ M).toS fun d M => .nx (ρ.set i (.v d)) M) := by
  refine PS.imp hp fun E σ H ⟨F, α, ρ, M, c, s, h⟩ => ht _ _ _ ?_
  refine bindS c s h fun F1 α1 H1 M1 x v g1 c1 s1 r1 h1 => ?_
  exact h1 F1 α1 H1 _ (set_after c1 s1 r1.strict)
theorem s_asT {e tg : Expr} {t : List Nat} {pos : Pos} {ta : En → Mst → R D} {te : TE} {g : TG} (hp : PS X (.Assign [tg] e pos) (tAsg te g)) (ht : te = tE W XW false ta) (hg : ∀ v σ H Q, tG W t v σ H Q → g v σ H Q) :
    PS X (.Assign [tg] e pos) (tS W XW fun ρ M => (ta ρ M).toS fun d M => match asg ρ t d with
      | some ρ => .nx ρ M
      | none => .stuck) := by
  subst ht
  refine PS.imp hp fun E σ H ⟨F, α, ρ, M, c, s, h⟩ => ?_
  refine bindS c s h fun F1 α1 H1 M1 x v g1 c1 s1 r1 h1 => ?_
  cases ea : asg ρ t x with
  | none =>
    simp only [ea] at h1
    exact h1.elim
  | some ρ2 =>
    simp only [ea] at h1
    exact hg _ _ _ _ ⟨F1, α1, ρ, M1, x, ρ2, c1, s1, r1.strict, ea, fun σ2 s2 _ o => h1 F1 α1 H1 σ2 ⟨⟨Grow.refl, c1⟩, s2, fun p hp => .inl (o p hp)⟩⟩
end
end Mi
end
section
set_option Elab.async false
set_option autoImplicit false
set_option linter.all false
set_option maxRecDepth 100000
set_option maxHeartbeats 4000000
namespace Mi
open PySem PySem.Spec PyProof.Rows L2
section
variable {W : Wd} {XW : L2.WX} {b : Bool} {F F' F1 F2 H H' H1 H2 : Hp} {α α' α1 α2 : List Addr} {M M' M1 M2 : Mst} {ρ ρ' ρ1 : En} {σ σ' σ1 : L2.St} {d : D} {v : V} {X : Cx} {tg : Expr} {E : Ends} {Q : VK}
/-! ### new lists -/
theorem Own.new (hW : W.Good) {ds : List D} {vs : List V} {p : Addr} (c : CM W F α M H) (r : Reps F α W.K ds vs) (hl : ds.length ≤ sizeLine) (hp : H p = none) : CM W F α M (upd H p (.lst vs)) ∧ Grow O0 F α H F α (upd H p (.lst vs)) ∧ Own W F α (upd H p (.lst vs)) ds p ∧ Fre H p := by
  obtain ⟨c1, g1⟩ := c.alloc W hW hp (o := .lst vs) fun z => z
  refine ⟨c1, g1, ⟨vs, upd_same, r, hl, ?_, fun z => ?_⟩, fun o z => by rw [hp] at z; cases z⟩
  · cases q : F p with
    | none => rfl
    | some u =>
      have := c.sub p u q
      rw [hp] at this
      cases this
  · obtain ⟨n, o, _, _, q, _⟩ := c.at_ z
    obtain ⟨u, q, _⟩ := q.there
    rw [hp] at q
    cases q
theorem m_lstF (hW : W.Good) {es : List Expr} {pos : Pos} {ts : En → Mst → R (List D)} (hs : PA X es (tL W XW ts)) (hl : ∀ ρ M ds M', ts ρ M = .ok ds M' → ds.length ≤ sizeLine) :
    PE X (.List es pos) (tF W XW fun ρ M => (ts ρ M).bind fun ds M => .ok (.lst ds) M) := PE.imp (pe_lst hs) fun σ H Q ⟨F, α, ρ, M, c, s, h⟩ => by
  refine ⟨F, α, ρ, M, c, s, ?_⟩
  dsimp only at h
  cases e : ts ρ M with
  | ok ds M1 =>
    rw [e] at h
    obtain ⟨_, ex, h⟩ := h
    cases ex
    intro F1 α1 H1 vs g1 c1 r1
    have hl := hl _ _ _ _ e
    refine ⟨by rw [r1.length]; exact hl, fun p hp => ?_⟩
    obtain ⟨c2, g2, o2, f2⟩ := Own.new hW c1 r1 hl hp
    exact h _ _ _ p (g1.trans0 g2) c2 o2 (g1.fre f2)
  | exc n M1 =>
    rw [e] at h
    exact h
  | stuck =>
    rw [e] at h
    exact h
theorem bindEF {ta : En → Mst → R D} {f : D → Mst → R D} {K : V → Hp → Prop} {b' : Bool} (c : CM W F α M H) (s : SL W F α H ρ σ) (h : postF W XW F α σ H Q ((ta ρ M).bind f))
    (k : ∀ F1 α1 H1 M1 x v, Grow O0 F α H F1 α1 H1 → CM W F1 α1 M1 H1 → SL W F1 α1 H1 ρ σ → RepB W b' F1 α1 H1 x v → postF W XW F1 α1 σ H1 Q (f x M1) → K v H1) : tE W XW b' ta σ H K := by
  refine ⟨F, α, ρ, M, c, s, ?_⟩
  cases e : ta ρ M with
  | ok x M1 =>
    rw [e] at h
    exact fun F1 α1 H1 v g c1 r => k F1 α1 H1 M1 x v g c1 (s.grow g) r (h.grow g)
  | exc n M1 =>
    rw [e] at h
    exact h
  | stuck =>
    rw [e] at h
    exact h
theorem m_addF (hW : W.Good) (hK : X.K = W.K) {a e : Expr} {pos : Pos} {ta tb : En → Mst → R D} (ha : PE X a (tE W XW true ta)) (hb : PE X e (tE W XW true tb)) :
    PE X (.BinOp a .Add e pos) (tF W XW (t2 ta tb fun _ => binD .add)) := PE.imp (pe_op o_add ha hb) fun σ H Q ⟨F, α, ρ, M, c, s, h⟩ => by
  rw [hK]
  refine bindEF c s h fun F1 α1 H1 M1 x v g1 c1 s1 r1 h1 => ?_
  refine bindEF c1 s1 h1 fun F2 α2 H2 M2 y u g2 c2 s2 r2 h2 => ?_
  replace r1 := r1.grow g2
  dsimp only at h2
  cases hd : binD .add x y with
  | none =>
    rw [hd] at h2
    exact h2.elim
  | some d =>
    rw [hd] at h2
    obtain ⟨ds, e1, q⟩ := h2
    subst e1
    have e : addD x y = some (.lst ds) := hd
    unfold addD at e
    split at e
    · cases e
    · split at e <;> cases e
    · rename_i xs ys
      split at e
      · rename_i hl
        cases e
        obtain ⟨p, vs, rfl, h1, h2, h3⟩ := r1.list c2
        obtain ⟨p', vs', rfl, h1', h2', h3'⟩ := r2.list c2
        refine .inr (.inr (.inl ⟨p, p', vs, vs', rfl, rfl, h1, h1', ?_, fun a ha => ?_⟩))
        · rw [h2.length, h2'.length]
          exact line_eq ▸ hl
        · obtain ⟨c3, g3, o3, f3⟩ := Own.new hW c2 (h2.append h2') (by rw [List.length_append]; exact line_eq ▸ hl) ha
          exact q _ _ _ a g3 c3 o3 f3
      · cases e
    · split at e <;> cases e
    · cases e
/-! ### a list of one's own gets a name -/
theorem SL.setOwn {i : Nat} {ds : List D} {p : Addr} (h : SL W F α H ρ σ) (o : Own W F α H ds p) (n : ∀ j, ¬ OwnAt σ ρ j p) : SL W F α H (ρ.set i (.own ds)) (σ.set i (some (.ref p))) where
  len := by simpa using h.len
  at_ := fun j s e => by
    by_cases hj : i = j
    · subst hj
      by_cases hl : i < ρ.length
      · rw [List.getElem?_set_self hl] at e
        cases e
        rw [List.getElem?_set_self (h.len ▸ hl)]
        exact o.slot
      · rw [List.getElem?_eq_none (by simpa using hl)] at e
        cases e
    · rw [List.getElem?_set_ne hj] at e ⊢
      exact h.at_ j s e
  dis := fun j k q h1 h2 => by
    have key : ∀ j, OwnAt (σ.set i (some (.ref p))) (ρ.set i (.own ds)) j q → (j = i ∧ q = p) ∨ (j ≠ i ∧ OwnAt σ ρ j q) := fun j ⟨e1, t, e2, m⟩ => by
      by_cases hj : i = j
      · subst hj
        by_cases hl : i < σ.length
        · rw [List.getElem?_set_self hl] at e1
          cases e1
          exact .inl ⟨rfl, rfl⟩
        · rw [List.getElem?_eq_none (by simpa using hl)] at e1
          cases e1
      · rw [List.getElem?_set_ne hj] at e1 e2
        exact .inr ⟨fun z => hj z.symm, e1, t, e2, m⟩
    rcases key j h1 with ⟨rfl, rfl⟩ | ⟨hj, k1⟩ <;> rcases key k h2 with ⟨rfl, z⟩ | ⟨hk, k2⟩
    · rfl
    · exact absurd k2 (n k)
    · subst z
      exact absurd k1 (n j)
    · exact h.dis j k q k1 k2
theorem SL.fre_not (h : SL W F α H ρ σ) {p : Addr} (f : Fre H p) : ∀ j, ¬ OwnAt σ ρ j p := fun j o => by
  obtain ⟨⟨u, h1, h2, _⟩, _⟩ := h.own_there ⟨j, o⟩
  exact h2 (f u h1)
theorem own_after {i : Nat} {ds : List D} {p : Addr} (s : SL W F α H ρ σ) (g : Grow O0 F α H F1 α1 H1) (c : CM W F1 α1 M1 H1) (o : Own W F1 α1 H1 ds p) (f : Fre H p) : AfterS W F α H ρ σ F1 α1 H1 M1 (ρ.set i (.own ds)) (σ.set i (some (.ref p))) := by
  refine ⟨⟨g.weak fun _ z => z.elim, c⟩, (s.grow g).setOwn o (s.fre_not f), fun q h => ?_⟩
  rcases h.set with h | ⟨_, h⟩
  · exact .inl h
  · cases h
    exact .inr f
theorem s_own {e tg : Expr} {i : Nat} {pos : Pos} {ta : En → Mst → R D} {te : TE} (hp : PS X (.Assign [tg] e pos) (tAsg te (gName i))) (ht : ∀ σ H Q, tF W XW ta σ H Q → te σ H Q) :
    PS X (.Assign [tg] e pos) (tS W XW fun ρ M => (ta ρ M).toS fun d M => match d with
      | .lst xs => .nx (ρ.set i (.own xs)) M
      | _ => .stuck) :=
  PS.imp hp fun E σ H ⟨F, α, ρ, M, c, s, h⟩ => by
    refine ht _ _ _ ⟨F, α, ρ, M, c, s, ?_⟩
    dsimp only at h
    cases e : ta ρ M with
    | ok x M1 =>
      rw [e] at h
      cases x with
      | lst xs => exact ⟨xs, rfl, fun F1 α1 H1 p g1 c1 o1 f1 => h F1 α1 H1 _ (own_after s g1 c1 o1 f1)⟩
      | _ => exact h.elim
    | exc n M1 =>
      rw [e] at h
      exact exc_of h
    | stuck =>
      rw [e] at h
      exact h
/-! ### l.append(x), l.pop(), l[k] = x -/
theorem own_at {i : Nat} {ds : List D} (s : SL W F α H ρ σ) (e : ρ[i]? = some (.own ds)) : ∃ p, σ[i]? = some (some (.ref p)) ∧ Own W F α H ds p ∧ OwnAt σ ρ i p := by
  obtain ⟨p, vs, e1, h1⟩ := s.at_ i _ e
  exact ⟨p, e1, ⟨vs, h1⟩, e1, _, e, rfl⟩
/-- what is one's own is changed in its place -/
theorem own_put (hW : W.Good) {i : Nat} {ds es : List D} {p : Addr} {ws : List V} (c : CM W F α M H) (s : SL W F α H ρ σ) (e : ρ[i]? = some (.own ds)) (e1 : σ[i]? = some (some (.ref p))) (o : Own W F α H ds p) (hw : OwnAt σ ρ i p) (r : Reps F α W.K es ws) (hl : es.length ≤ sizeLine) :
    AfterS W F α H ρ σ F α (upd H p (.lst ws)) M (ρ.set i (.own es)) σ := by
  obtain ⟨c1, g1, o1⟩ := o.put hW c r hl
  have hi : i < ρ.length := (List.getElem?_eq_some_iff.mp e).1
  have key : ∀ j q, OwnAt σ (ρ.set i (.own es)) j q → OwnAt σ ρ j q := fun j q ⟨f1, t, f2, m⟩ => by
    by_cases hj : i = j
    · subst hj
      exact ⟨f1, _, e, rfl⟩
    · rw [List.getElem?_set_ne hj] at f2
      exact ⟨f1, t, f2, m⟩
  refine ⟨⟨g1.weak fun a z => by subst z; exact ⟨i, hw⟩, c1⟩, ⟨by simpa using s.len, fun j sl ej => ?_, fun j k q hj hk => s.dis j k q (key j q hj) (key k q hk)⟩, fun q ⟨j, hq⟩ => .inl ⟨j, key j q hq⟩⟩
  by_cases hj : i = j
  · subst hj
    rw [List.getElem?_set_self hi] at ej
    cases ej
    rw [e1]
    exact o1.slot
  · rw [List.getElem?_set_ne hj] at ej
    refine (s.at_ j _ ej).grow g1 fun q eq m z => ?_
    subst z
    exact hj (s.dis i j q hw ⟨eq, _, ej, m⟩)
theorem AfterS.later (a : AfterS W F α H ρ σ F1 α1 H1 M1 ρ' σ') (g : Grow O0 F1 α1 H1 F2 α2 H2) (c : CM W F2 α2 M2 H2) : AfterS W F α H ρ σ F2 α2 H2 M2 ρ' σ' :=
  ⟨⟨a.g.trans0 g, c⟩, a.s.grow g, a.o⟩
theorem s_app (hW : W.Good) {o e : Expr} {apos cpos pos : Pos} {i : Nat} {ta : En → Mst → R D} (ho : PE X o (tVar i)) (he : PE X e (tE W XW false ta)) (hs : noStar e = true) (hbase : attributeBase o "append" X.env (eval o X.env) = eval o X.env) (hline : (apos.endLine == cpos.line) = true) :
    PS X (.Expr (.Call (.Attribute o "append" apos) [e] [] cpos) pos) (tS W XW fun ρ M => match ρ[i]? with
      | some (.own xs) => (ta ρ M).toS fun d M => if xs.length < line then .nx (ρ.set i (.own (xs ++ [d]))) M else .stuck
      | _ => .stuck) := by
  have hst : starEach [e] X.env = (false, eval e X.env) :: starEach [] X.env := star_of hs
  refine PS.imp (ps_expr (pe_bm PySem.F.plainAttrs_list PySem.F.slot_list_append PySem.F.type_list_append mt_append ho (pa_cons he pa_nil hst) hbase (by rw [hst]; rfl) hline hst rfl) (sw_of rfl)) fun E σ H ⟨F, α, ρ, M, c, s, h⟩ => ?_
  dsimp only at h
  split at h
  · rename_i xs er
    obtain ⟨p, e1, o1, hw⟩ := own_at s er
    refine ⟨.ref p, e1, ?_⟩
    obtain ⟨vs, h2, h3, h4⟩ := id o1
    refine ⟨.inl ⟨rfl, vs, SqL.of h2⟩, ?_⟩
    refine bindS c s h fun F1 α1 H1 M1 x v g1 c1 s1 r1 h1 => ?_
    split at h1
    · rename_i hl
      have o2 := o1.grow g1 fun z => z
      obtain ⟨vs2, h5, h6, h7, h8, h9⟩ := id o2
      refine ⟨p, vs2, v, rfl, rfl, h5, by rw [h6.length]; exact line_eq ▸ hl, ?_⟩
      exact h1 _ _ _ _ (own_put hW c1 s1 er e1 o2 hw (h6.append (.one r1.strict)) (by rw [List.length_append]; exact line_eq ▸ hl))
    · exact h1.elim
  · exact h.elim
theorem s_pop (hW : W.Good) {o : Expr} {apos cpos pos : Pos} {i : Nat} (ho : PE X o (tVar i)) (hbase : attributeBase o "pop" X.env (eval o X.env) = eval o X.env) (hline : (apos.endLine == cpos.line) = true) :
    PS X (.Expr (.Call (.Attribute o "pop" apos) [] [] cpos) pos) (tS W XW fun ρ M => match ρ[i]? with
      | some (.own xs) => if xs = [] then .stuck else .nx (ρ.set i (.own xs.dropLast)) M
      | _ => .stuck) := by
  refine PS.imp (ps_expr (pe_bm0 PySem.F.plainAttrs_list PySem.F.slot_list_pop PySem.F.type_list_pop mt_pop ho hbase hline) (sw_of rfl)) fun E σ H ⟨F, α, ρ, M, c, s, h⟩ => ?_
  dsimp only at h
  split at h
  · rename_i xs er
    obtain ⟨p, e1, o1, hw⟩ := own_at s er
    refine ⟨.ref p, e1, ?_⟩
    obtain ⟨vs, h2, h3, h4, h5⟩ := id o1
    refine ⟨.inl ⟨rfl, vs, SqL.of h2⟩, ?_⟩
    split at h
    · exact h.elim
    · rename_i hne
      have hl : 0 < vs.length := by
        rw [h3.length]
        exact List.length_pos_iff.mpr hne
      refine ⟨p, vs, _, rfl, rfl, h2, List.getElem?_eq_getElem (by omega), ?_⟩
      exact h _ _ _ _ (own_put hW c s er e1 o1 hw h3.dropLast (by rw [List.length_dropLast]; omega))
  · exact h.elim
theorem s_si (hW : W.Good) {o k e : Expr} {pos spos : Pos} {i : Nat} {tk ta : En → Mst → R D} (ho : PE X o (tVar i)) (hk : PE X k (tE W XW true tk)) (he : PE X e (tE W XW false ta)) (hn : noComp e = true) (hsl : noSlice k = true) :
    PS X (.Assign [.Subscript o k pos] e spos) (tS W XW fun ρ M => match ρ[i]? with
      | some (.own xs) => (ta ρ M).toS fun d M => (tk ρ M).toS fun x M => (match x with
        | .int j => (match L2.ixN xs.length j with
          | some n => .nx (ρ.set i (.own (xs.set n d))) M
          | none => .stuck)
        | _ => .stuck)
      | _ => .stuck) := by
  have hg : PG X (.Subscript o k pos) (gSub (tVar i) (tE W XW true tk) rSetL) := pg_sub ho hk set_list (by
    intro v
    cases k <;> first | rfl | cases hsl)
  refine PS.imp (ps_asg he hg (by unfold swapsWithSole; exact sw_of hn) rfl rfl) fun E σ H ⟨F, α, ρ, M, c, s, h⟩ => ?_
  dsimp only at h
  split at h
  · rename_i xs er
    refine bindS c s h fun F1 α1 H1 M1 x v g1 c1 s1 r1 h1 => ?_
    obtain ⟨p, e1, o1, hw⟩ := own_at s1 er
    refine ⟨.ref p, e1, ?_⟩
    refine bindS c1 s1 h1 fun F2 α2 H2 M2 y u g2 c2 s2 r2 h2 => ?_
    replace r1 := r1.grow g2
    replace o1 := o1.grow g2 fun z => z
    cases y with
    | int j =>
      cases r2.int
      dsimp only at h2
      split at h2
      · rename_i n en
        obtain ⟨vs, h5, h6, h7, h8⟩ := id o1
        refine ⟨p, vs, j, n, rfl, rfl, h5, by rw [h6.length]; exact en, ?_⟩
        exact h2 _ _ _ _ (own_put hW c2 s2 er e1 o1 hw (h6.set r1.strict n) (by rw [List.length_set]; exact h7))
      · exact h2.elim
    | _ => exact h2.elim
  · exact h.elim
/-! ### for, while -/
theorem s_for {iter : Expr} {body : List Stmt} {pos : Pos} {t : List Nat} {ti : En → Mst → R (List D)} {tb : En → Mst → SR} (hp : PassesOwn (model X.prog X.w) X.A X.env X.xe) (hc : X.calm = true) (hi : PI X tg iter (tI W XW false ti)) (hg : PG X tg (tG W t)) (hb : PSs X body (tS W XW tb)) (hs : ∀ x, foldedSetIterable iter X.env x = pure x) :
    PS X (.For tg iter body [] pos) (tS W XW fun ρ M => (ti ρ M).toS fun xs M => forD (fun x ρ M => match asg ρ t x with
      | some ρ => tb ρ M
      | none => .stuck) xs ρ M) := PS.imp (ps_for hp hc hi hg hb hs) fun E σ H ⟨F, α, ρ, M, c, s, h⟩ => by
  refine ⟨F, α, ρ, M, c, s, ?_⟩
  dsimp only at h
  cases e : ti ρ M with
  | exc n M1 =>
    rw [e] at h
    exact exc_of h
  | stuck =>
    rw [e] at h
    exact h
  | ok ds M1 =>
    rw [e] at h
    intro F1 α1 H1 J g1 c1 ⟨hlen, U, Y, hU, _, B⟩
    replace h : postS W XW F α H ρ σ E (forD _ ds ρ M1) := h
    replace h := postS.grow g1 h
    have s1 := s.grow g1
    generalize hf : (fun (x : D) (ρ : En) (M : Mst) => match asg ρ t x with
      | some ρ => tb ρ M
      | none => .stuck) = f at h
    refine for_it B.wk (Pv := fun i σ' H' => ∃ F' α' ρ' M', AfterS W F1 α1 H1 ρ σ F' α' H' M' ρ' σ' ∧ postS W XW F1 α1 H1 ρ σ E (forD f (ds.drop i) ρ' M')) ?_ ?_ ?_ ?_
    · exact ⟨F1, α1, ρ, M1, .here c1 s1, h⟩
    · intro i σ2 H2 hi ⟨F2, α2, ρ2, M2, a2, _⟩
      exact ⟨OwnA σ ρ, F2, α2, M2, a2.g, fun a z => (hU rfl a z).elim, a2.c⟩
    · intro i x σ2 H2 H3 hi ⟨F2, α2, ρ2, M2, a2, h2⟩ hy
      obtain ⟨F3, d, e5, c3, g3, r3⟩ := B.it i H2 x H3 (OwnA σ ρ) F2 α2 M2 a2.g (fun a z => (hU rfl a z).elim) a2.c hi hy
      have a3 := a2.later g3 c3
      have ed : ds.drop i = d :: ds.drop (i + 1) := by
        obtain ⟨hi', q⟩ := List.getElem?_eq_some_iff.mp e5
        rw [List.drop_eq_getElem_cons hi', q]
      rw [ed] at h2
      unfold forD at h2
      rw [← hf] at h2
      dsimp only at h2
      cases ea : asg ρ2 t d with
      | none =>
        simp only [ea] at h2
        exact h2.elim
      | some ρ4 =>
        simp only [ea] at h2
        refine ⟨F3, α2, ρ2, M2, d, ρ4, c3, a3.s, r3, ea, fun σ4 s4 _ o4 => ⟨F3, α2, ρ4, M2, c3, s4, ?_⟩⟩
        have a4 : AfterS W F1 α1 H1 ρ σ F3 α2 H3 M2 ρ4 σ4 := ⟨a3.toAfter, s4, fun p hp => a3.o p (o4 p hp)⟩
        cases et : tb ρ4 M2 with
        | nx ρ5 M5 =>
          simp only [et] at h2
          rw [hf] at h2
          exact fun F5 α5 H5 σ5 a5 => ⟨F5, α5, ρ5, M5, a4.thenS a5, h2⟩
        | ct ρ5 M5 =>
          simp only [et] at h2
          rw [hf] at h2
          exact fun F5 α5 H5 σ5 a5 => ⟨F5, α5, ρ5, M5, a4.thenS a5, h2⟩
        | bk ρ5 M5 =>
          simp only [et] at h2
          exact fun F5 α5 H5 σ5 a5 => h2 F5 α5 H5 σ5 (a4.thenS a5)
        | rt d M5 =>
          simp only [et] at h2
          exact fun F5 α5 H5 v a5 r5 => h2 F5 α5 H5 v (a4.then_ a5) r5
        | exc n M5 =>
          simp only [et] at h2
          exact fun F5 α5 H5 σ5 a5 => h2 F5 α5 H5 σ5 (a4.then_ a5)
        | stuck =>
          simp only [et] at h2
          exact h2.elim
    · intro σ2 H2 ⟨F2, α2, ρ2, M2, a2, h2⟩
      rw [List.drop_length] at h2
      exact h2 F2 α2 H2 σ2 a2
theorem s_while {cnd : Expr} {body : List Stmt} {pos : Pos} {n : Nat} {tc : En → Mst → R D} {tb : En → Mst → SR} (hp : PassesOwn (model X.prog X.w) X.A X.env X.xe) (hc : PT X cnd (tT W XW tc)) (hb : PSs X body (tS W XW tb)) :
    PS X (.While cnd body [] pos) (tS W XW fun ρ M => whileD tc tb n ρ M) := PS.imp (ps_while hp hc hb) fun E σ H ⟨F, α, ρ, M, c, s, h⟩ => by
  refine ⟨fun m => tS W XW (whileD tc tb m) E, ⟨n, F, α, ρ, M, c, s, h⟩, ?_⟩
  intro m σ1 H1 ⟨F1, α1, ρ1, M1, c1, s1, h1⟩
  cases m with
  | zero => exact h1.elim
  | succ m =>
    unfold whileD at h1
    refine bindST (fa := fun M => match tb ρ1 M with
      | .nx ρ M => whileD tc tb m ρ M
      | .ct ρ M => whileD tc tb m ρ M
      | .bk ρ M => .nx ρ M
      | r => r) (fb := fun M => .nx ρ1 M) c1 s1 (E := E) ?_ fun F2 α2 H2 M2 k g2 c2 s2 h2 => ?_
    · refine cast (congrArg _ ?_) h1
      cases tc ρ1 M1 with
      | ok x M2 =>
        cases x with
        | bl k => cases k <;> rfl
        | _ => rfl
      | exc n M2 => rfl
      | stuck => rfl
    · cases k with
      | false =>
        simp only [Bool.false_eq_true, if_false] at h2 ⊢
        exact h2 F2 α2 H2 σ1 (.here c2 s2)
      | true =>
        simp only [if_true] at h2 ⊢
        refine ⟨tS W XW (whileD tc tb m) E, fun σ' H' q => ⟨m, Nat.lt_succ_self m, q⟩, F2, α2, ρ1, M2, c2, s2, ?_⟩
        cases et : tb ρ1 M2 with
        | nx ρ5 M5 =>
          simp only [et] at h2
          exact fun F5 α5 H5 σ5 a5 => ⟨F5, α5, ρ5, M5, a5.c, a5.s, postS.behind a5 h2⟩
        | ct ρ5 M5 =>
          simp only [et] at h2
          exact fun F5 α5 H5 σ5 a5 => ⟨F5, α5, ρ5, M5, a5.c, a5.s, postS.behind a5 h2⟩
        | bk ρ5 M5 =>
          simp only [et] at h2
          exact h2
        | rt d M5 =>
          simp only [et] at h2
          exact h2
        | exc n M5 =>
          simp only [et] at h2
          exact h2
        | stuck =>
          simp only [et] at h2
          exact h2.elim
end
end Mi
end
section
set_option Elab.async false
set_option autoImplicit false
set_option linter.all false
set_option maxRecDepth 100000
set_option maxHeartbeats 4000000
namespace Mi
open PySem PySem.Spec PyProof.Rows L2
section
variable {W : Wd} {XW : L2.WX} {b : Bool} {F F' F1 F2 H H' H1 H2 : Hp} {α α' α1 α2 : List Addr} {M M' M1 M2 : Mst} {ρ ρ' ρ1 : En} {σ σ' σ1 : L2.St} {d : D} {v : V} {X : Cx} {tg : Expr} {E : Ends} {Q : VK}
/-! ### a changed list is changed -/
theorem CM.setRef (hW : W.Good) {r : Nat} {a : Addr} {ds es : List D} {ws : List V} (c : CM W F α M H) (ha : α[r]? = some a) (hm : M[r]? = some (.lst ds)) (q : Reps F α W.K es ws) (hl : es.length ≤ sizeLine) : CM W F α (M.set r (.lst es)) (upd H a (.lst ws)) ∧ Grow O0 F α H F α (upd H a (.lst ws)) := by
  obtain ⟨⟨vs, h1, h2, h3⟩, hF⟩ := c.al r a _ ha hm
  have har : r < α.length := (List.getElem?_eq_some_iff.mp ha).1
  refine ⟨⟨fun x u e => ?_, c.fro, by rw [List.length_set]; exact c.len, c.nd, fun n x o e1 e2 => ?_, hW _ _ c.tb (tbl_upd fun u e => by rw [h1] at e; cases e; exact ⟨fun z => z, fun _ z => by cases z⟩)⟩, ⟨Same.refl _, ⟨[], by simp⟩, fun x u h nα _ _ => ?_, fun x u h n => ?_, fun x u h => .inl h, fun x h => .inl h⟩⟩
  · rw [upd_ne (ne_of_none e hF)]
    exact c.sub x u e
  · by_cases hn : n = r
    · subst hn
      rw [ha] at e1
      cases e1
      have : n < M.length := c.len ▸ har
      rw [List.getElem?_set_self this] at e2
      cases e2
      exact ⟨⟨ws, upd_same, q, hl⟩, hF⟩
    · rw [List.getElem?_set_ne (Ne.symm hn)] at e2
      obtain ⟨q1, q2⟩ := c.al n x o e1 e2
      refine ⟨q1.mono W (Same.refl _) ⟨[], by simp⟩ (upd_ne fun z => ?_).symm, q2⟩
      subst z
      obtain ⟨hi, e3⟩ := List.getElem?_eq_some_iff.mp e1
      obtain ⟨hj, e4⟩ := List.getElem?_eq_some_iff.mp ha
      exact hn ((List.getElem_inj c.nd).mp (e3.trans e4.symm))
  · rw [upd_ne fun z => ?_]
    · exact h
    · subst z
      exact nα (List.mem_of_getElem? ha)
  · by_cases hx : x = a
    · subst hx
      exact ⟨_, upd_same, fun z => z⟩
    · exact ⟨u, by rw [upd_ne hx]; exact h, n⟩
theorem s_ri (hW : W.Good) {o k e : Expr} {pos spos : Pos} {to tk ta : En → Mst → R D} (ho : PE X o (tE W XW true to)) (hk : PE X k (tE W XW true tk)) (he : PE X e (tE W XW false ta)) (hn : noComp e = true) (hsl : noSlice k = true) :
    PS X (.Assign [.Subscript o k pos] e spos) (tS W XW fun ρ M => (ta ρ M).toS fun d M => (to ρ M).toS fun o M => (tk ρ M).toS fun x M => (match o, x with
      | .ref r, .int j => (match M[r]? with
        | some (.lst xs) => (match L2.ixN xs.length j with
          | some n => .nx ρ (M.set r (.lst (xs.set n d)))
          | none => .stuck)
        | _ => .stuck)
      | _, _ => .stuck)) := by
  have hg : PG X (.Subscript o k pos) (gSub (tE W XW true to) (tE W XW true tk) rSetL) := pg_sub ho hk set_list (by
    intro v
    cases k <;> first | rfl | cases hsl)
  refine PS.imp (ps_asg he hg (by unfold swapsWithSole; exact sw_of hn) rfl rfl) fun E σ H ⟨F, α, ρ, M, c, s, h⟩ => ?_
  refine bindS c s h fun F1 α1 H1 M1 x v g1 c1 s1 r1 h1 => ?_
  refine bindS c1 s1 h1 fun F2 α2 H2 M2 y u g2 c2 s2 r2 h2 => ?_
  refine bindS c2 s2 h2 fun F3 α3 H3 M3 z w g3 c3 s3 r3 h3 => ?_
  replace r1 := r1.grow (g2.trans0 g3)
  replace r2 := r2.grow g3
  cases y with
  | ref r =>
    cases z with
    | int j =>
      cases r3.int
      obtain ⟨a, rfl, ha⟩ := r2.ref
      dsimp only at h3
      split at h3
      · rename_i xs em
        split at h3
        · rename_i n en
          obtain ⟨⟨vs, h5, h6, h7⟩, h8⟩ := c3.al r a _ ha em
          refine ⟨a, vs, j, n, rfl, rfl, h5, by rw [h6.length]; exact en, ?_⟩
          obtain ⟨c4, g4⟩ := c3.setRef hW ha em (h6.set r1.strict n) (by rw [List.length_set]; exact h7)
          exact h3 F3 α3 _ σ ⟨⟨g4.weak fun _ z => z.elim, c4⟩, s3.grow g4, fun p hp => .inl hp⟩
        · exact h3.elim
      · exact h3.elim
    | _ => exact h3.elim
  | _ => exact h3.elim
/-! ### a, b = x, y; a, b, c = x, y, z -/
def Flag (os : List Bool) (vs : List V) (p : Addr) : Prop := ∃ i : Nat, os[i]? = some true ∧ vs[i]? = some (.ref p)
/-- values for names: those flagged are lists of one's own -/
def RepOs (W : Wd) (F : Hp) (α : List Addr) (H0 H : Hp) : List Bool → List D → List V → Prop
  | [], ds, vs => ds = [] ∧ vs = []
  | o :: os, ds, vs => ∃ d r v w, ds = d :: r ∧ vs = v :: w ∧ RepOs W F α H0 H os r w ∧ ((o = false ∧ Rep F α W.K d v) ∨ (o = true ∧ ∃ xs p, d = .lst xs ∧ v = .ref p ∧ Own W F α H xs p ∧ Fre H0 p ∧ ¬ Flag os w p))
def postO (W : Wd) (X : L2.WX) (os : List Bool) (F : Hp) (α : List Addr) (σ : L2.St) (H : Hp) (Q : List V → Hp → Prop) : R (List D) → Prop
  | .ok ds M' => ∀ F' α' H' vs, Grow O0 F α H F' α' H' → CM W F' α' M' H' → RepOs W F' α' H H' os ds vs → Q vs H'
  | .exc c M' => PX W X F α σ H c M'
  | .stuck => False
def tO (W : Wd) (X : L2.WX) (os : List Bool) (t : En → Mst → R (List D)) : TA := fun σ H Q => ∃ F α ρ M, CM W F α M H ∧ SL W F α H ρ σ ∧ postO W X os F α σ H Q (t ρ M)
theorem RepOs.flag {H0 : Hp} {p : Addr} : ∀ {os : List Bool} {ds : List D} {vs : List V}, RepOs W F α H0 H os ds vs → Flag os vs p → Fre H0 p ∧ ∃ xs, Own W F α H xs p
  | [], ds, vs, h, ⟨i, e, _⟩ => by simp at e
  | o :: os, ds, vs, h, ⟨i, e1, e2⟩ => by
    obtain ⟨d, r, v, w, rfl, rfl, h1, h2⟩ := h
    cases i with
    | zero =>
      simp at e1 e2
      subst e1
      subst e2
      rcases h2 with ⟨z, _⟩ | ⟨_, xs, q, _, e3, h3, h4, _⟩
      · cases z
      · cases e3
        exact ⟨h4, xs, h3⟩
    | succ i => exact RepOs.flag h1 ⟨i, by simpa using e1, by simpa using e2⟩
theorem RepOs.older {H0 H0' : Hp} (hf : ∀ p, Fre H0' p → Fre H0 p) : ∀ {os : List Bool} {ds : List D} {vs : List V}, RepOs W F α H0' H os ds vs → RepOs W F α H0 H os ds vs
  | [], ds, vs, h => h
  | o :: os, ds, vs, h => by
    obtain ⟨d, r, v, w, rfl, rfl, h1, h2⟩ := h
    refine ⟨d, r, v, w, rfl, rfl, RepOs.older hf h1, h2.imp id fun ⟨e, xs, p, e1, e2, h3, h4, h5⟩ => ⟨e, xs, p, e1, e2, h3, hf p h4, h5⟩⟩
theorem m_nilO : PA X [] (tO W XW [] fun _ M => .ok [] M) := PA.imp pa_nil fun σ H Q ⟨F, α, ρ, M, c, s, h⟩ => h F α H [] Grow.refl c ⟨rfl, rfl⟩
theorem m_consV {os : List Bool} {e : Expr} {es : List Expr} {ta : En → Mst → R D} {ts : En → Mst → R (List D)} (ha : PE X e (tE W XW false ta)) (hs : PA X es (tO W XW os ts)) (hn : noStar e = true) :
    PA X (e :: es) (tO W XW (false :: os) fun ρ M => (ta ρ M).bind fun d M => (ts ρ M).bind fun ds M => .ok (d :: ds) M) := PA.imp (pa_cons ha hs (star_of hn)) fun σ H Q ⟨F, α, ρ, M, c, s, h⟩ => by
  refine ⟨F, α, ρ, M, c, s, ?_⟩
  dsimp only at h
  cases e : ta ρ M with
  | exc n M1 =>
    rw [e] at h
    exact h
  | stuck =>
    rw [e] at h
    exact h
  | ok d M1 =>
    rw [e] at h
    intro F1 α1 H1 v g1 c1 r1
    refine ⟨F1, α1, ρ, M1, c1, s.grow g1, ?_⟩
    replace h : postO W XW (false :: os) F α σ H Q ((ts ρ M1).bind fun ds M => .ok (d :: ds) M) := h
    cases e2 : ts ρ M1 with
    | exc n M2 =>
      rw [e2] at h
      exact fun F2 α2 H2 g2 c2 => h F2 α2 H2 (g1.trans0 g2) c2
    | stuck =>
      rw [e2] at h
      exact h
    | ok ds M2 =>
      rw [e2] at h
      exact fun F2 α2 H2 vs g2 c2 r2 => h F2 α2 H2 (v :: vs) (g1.trans0 g2) c2 ⟨d, ds, v, vs, rfl, rfl, r2.older fun p f => g1.fre f, .inl ⟨rfl, g2.rep r1.strict⟩⟩
theorem m_consF {os : List Bool} {e : Expr} {es : List Expr} {ta : En → Mst → R D} {ts : En → Mst → R (List D)} (ha : PE X e (tF W XW ta)) (ht : ∀ ρ M d M', ta ρ M = .ok d M' → ∃ ds, d = .lst ds) (hs : PA X es (tO W XW os ts)) (hn : noStar e = true) :
    PA X (e :: es) (tO W XW (true :: os) fun ρ M => (ta ρ M).bind fun d M => (ts ρ M).bind fun ds M => .ok (d :: ds) M) := PA.imp (pa_cons ha hs (star_of hn)) fun σ H Q ⟨F, α, ρ, M, c, s, h⟩ => by
  refine ⟨F, α, ρ, M, c, s, ?_⟩
  dsimp only at h
  cases e : ta ρ M with
  | exc n M1 =>
    rw [e] at h
    exact h
  | stuck =>
    rw [e] at h
    exact h
  | ok d M1 =>
    obtain ⟨xs, rfl⟩ := ht _ _ _ _ e
    rw [e] at h
    refine ⟨xs, rfl, fun F1 α1 H1 p g1 c1 o1 f1 => ?_⟩
    refine ⟨F1, α1, ρ, M1, c1, s.grow g1, ?_⟩
    replace h : postO W XW (true :: os) F α σ H Q ((ts ρ M1).bind fun ds M => .ok (.lst xs :: ds) M) := h
    cases e2 : ts ρ M1 with
    | exc n M2 =>
      rw [e2] at h
      exact fun F2 α2 H2 g2 c2 => h F2 α2 H2 (g1.trans0 g2) c2
    | stuck =>
      rw [e2] at h
      exact h
    | ok ds M2 =>
      rw [e2] at h
      refine fun F2 α2 H2 vs g2 c2 r2 => h F2 α2 H2 (.ref p :: vs) (g1.trans0 g2) c2 ⟨_, ds, _, vs, rfl, rfl, r2.older fun p f => g1.fre f, .inr ⟨rfl, xs, p, rfl, rfl, o1.grow g2 fun z => z, f1, fun fl => ?_⟩⟩
      obtain ⟨vs1, q1, _⟩ := o1
      exact (r2.flag fl).1 _ q1
def setVs : L2.St → List Nat → List V → L2.St
  | σ, i :: is, v :: vs => setVs (σ.set i (some v)) is vs
  | σ, _, _ => σ
theorem par_sl {H0 : Hp} : ∀ {ts : List Nat} {os : List Bool} {ds : List D} {vs : List V} {ρ ρ' : En} {σ : L2.St}, SL W F α H ρ σ → (∀ p, Flag os vs p → ¬ OwnA σ ρ p) → RepOs W F α H0 H os ds vs → parS ρ ts os ds = some ρ' → SL W F α H ρ' (setVs σ ts vs) ∧ ∀ p, OwnA (setVs σ ts vs) ρ' p → OwnA σ ρ p ∨ Flag os vs p
  | [], os, ds, vs, ρ, ρ', σ, s, hf, r, e => by
    cases os with
    | nil =>
      obtain ⟨rfl, rfl⟩ := r
      cases e
      exact ⟨s, fun p h => .inl h⟩
    | cons o os =>
      obtain ⟨d, r', v, w, rfl, rfl, _⟩ := r
      cases e
  | i :: ts, os, ds, vs, ρ, ρ', σ, s, hf, r, e => by
    cases os with
    | nil =>
      obtain ⟨rfl, rfl⟩ := r
      cases e
    | cons o os =>
      obtain ⟨d, r', v, w, rfl, rfl, h1, h2⟩ := r
      have tailF : ∀ p, Flag os w p → Flag (o :: os) (v :: w) p := fun p ⟨i, e1, e2⟩ => ⟨i + 1, by simpa using e1, by simpa using e2⟩
      rcases h2 with ⟨rfl, hr⟩ | ⟨rfl, xs, p, rfl, rfl, ho, hfr, hn⟩
      · replace e : parS (ρ.set i (.v d)) ts os r' = some ρ' := e
        obtain ⟨q1, q2⟩ := par_sl (s.setV hr) (fun p fl o => hf p (tailF p fl) (own_setV o)) h1 e
        exact ⟨q1, fun p hp => (q2 p hp).elim (fun o => .inl (own_setV o)) fun fl => .inr (tailF p fl)⟩
      · replace e : parS (ρ.set i (.own xs)) ts os r' = some ρ' := e
        have fp : Flag (true :: os) (.ref p :: w) p := ⟨0, rfl, rfl⟩
        have key : ∀ q, OwnA (σ.set i (some (.ref p))) (ρ.set i (.own xs)) q → OwnA σ ρ q ∨ q = p := fun q h => by
          rcases h.set with h | ⟨_, h⟩
          · exact .inl h
          · cases h
            exact .inr rfl
        obtain ⟨q1, q2⟩ := par_sl (s.setOwn ho fun j o => hf p fp ⟨j, o⟩) (fun q fl o => (key q o).elim (hf q (tailF q fl)) fun z => hn (z ▸ fl)) h1 e
        refine ⟨q1, fun q hq => (q2 q hq).elim (fun o => (key q o).imp id fun z => ?_) fun fl => .inr (tailF q fl)⟩
        subst z
        exact fp
theorem RepOs.len {H0 : Hp} : ∀ {os : List Bool} {ds : List D} {vs : List V}, RepOs W F α H0 H os ds vs → vs.length = os.length ∧ ds.length = os.length
  | [], ds, vs, h => by
    obtain ⟨rfl, rfl⟩ := h
    exact ⟨rfl, rfl⟩
  | o :: os, ds, vs, h => by
    obtain ⟨d, r, v, w, rfl, rfl, h1, _⟩ := h
    obtain ⟨q1, q2⟩ := RepOs.len h1
    exact ⟨by simp [q1], by simp [q2]⟩
theorem par_post {ts : List Nat} {os : List Bool} {tes : En → Mst → R (List D)} {K : List V → Hp → Prop} (c : CM W F α M H) (s : SL W F α H ρ σ) (h : postS W XW F α H ρ σ E ((tes ρ M).toS fun ds M => match parS ρ ts os ds with
      | some ρ => .nx ρ M
      | none => .stuck)) (k : ∀ vs H1, vs.length = os.length → E.nx (setVs σ ts vs) H1 → K vs H1) : tO W XW os tes σ H K := by
  refine ⟨F, α, ρ, M, c, s, ?_⟩
  cases e : tes ρ M with
  | exc n M1 =>
    rw [e] at h
    exact exc_of h
  | stuck =>
    rw [e] at h
    exact h
  | ok ds M1 =>
    rw [e] at h
    intro F1 α1 H1 vs g1 c1 r1
    refine k vs H1 r1.len.1 ?_
    replace h : postS W XW F α H ρ σ E (match parS ρ ts os ds with
      | some ρ => .nx ρ M1
      | none => .stuck) := h
    cases ep : parS ρ ts os ds with
    | none =>
      simp only [ep] at h
      exact h.elim
    | some ρ' =>
      simp only [ep] at h
      obtain ⟨q1, q2⟩ := par_sl (s.grow g1) (fun p fl o => by
        obtain ⟨j, o⟩ := o
        exact s.fre_not (r1.flag fl).1 j o) r1 ep
      exact h F1 α1 H1 _ ⟨⟨g1.weak fun _ z => z.elim, c1⟩, q1, fun p hp => (q2 p hp).imp id fun fl => (r1.flag fl).1⟩
theorem s_par2 {st : Stmt} {i j : Nat} {os : List Bool} {ta : TA} {tes : En → Mst → R (List D)} (hp : PS X st (tPar i j ta)) (ho : os.length = 2) (ht : ∀ σ H K, tO W XW os tes σ H K → ta σ H K) :
    PS X st (tS W XW fun ρ M => (tes ρ M).toS fun ds M => match parS ρ [i, j] os ds with
      | some ρ => .nx ρ M
      | none => .stuck) := PS.imp hp fun E σ H ⟨F, α, ρ, M, c, s, h⟩ => ht _ _ _ (par_post c s h fun vs H1 hl hn => by
  obtain ⟨v, w, rfl⟩ : ∃ v w, vs = [v, w] := by
    match vs, hl.trans ho with
    | [v, w], _ => exact ⟨v, w, rfl⟩
  exact ⟨v, w, rfl, hn⟩)
theorem s_par3 {st : Stmt} {i j l : Nat} {os : List Bool} {ta : TA} {tes : En → Mst → R (List D)} (hp : PS X st (tPar3 i j l ta)) (ho : os.length = 3) (ht : ∀ σ H K, tO W XW os tes σ H K → ta σ H K) :
    PS X st (tS W XW fun ρ M => (tes ρ M).toS fun ds M => match parS ρ [i, j, l] os ds with
      | some ρ => .nx ρ M
      | none => .stuck) := PS.imp hp fun E σ H ⟨F, α, ρ, M, c, s, h⟩ => ht _ _ _ (par_post c s h fun vs H1 hl hn => by
  obtain ⟨u, v, w, rfl⟩ : ∃ u v w, vs = [u, v, w] := by
    match vs, hl.trans ho with
    | [u, v, w], _ => exact ⟨u, v, w, rfl⟩
  exact ⟨u, v, w, rfl, hn⟩)
/-- names at once, by a tuple that is made for it -/
theorem gNames_sets {E : Ends} : ∀ {ts : List Nat} {vs : List V} {σ : L2.St} {H : Hp}, vs.length = ts.length → E.nx (setVs σ ts vs) H → gNames ts vs σ H E.nx
  | [], vs, σ, H, hl, h => by
    cases vs with
    | nil => exact ⟨rfl, h⟩
    | cons v vs => cases hl
  | i :: ts, vs, σ, H, hl, h => by
    cases vs with
    | nil => cases hl
    | cons v vs => exact ⟨v, vs, rfl, gNames_sets (by simpa using hl) h⟩
theorem parT_post (hW : W.Good) {ts : List Nat} {os : List Bool} {tes : En → Mst → R (List D)} {K : List V → Hp → Prop} (c : CM W F α M H) (s : SL W F α H ρ σ) (h : postS W XW F α H ρ σ E ((tes ρ M).toS fun ds M => match parS ρ ts os ds with
      | some ρ => .nx ρ M
      | none => .stuck)) (k : ∀ vs H1, vs.length = os.length → (∀ p, H1 p = none → E.nx (setVs σ ts vs) (upd H1 p (.tup vs))) → K vs H1) : tO W XW os tes σ H K := by
  refine ⟨F, α, ρ, M, c, s, ?_⟩
  cases e : tes ρ M with
  | exc n M1 =>
    rw [e] at h
    exact exc_of h
  | stuck =>
    rw [e] at h
    exact h
  | ok ds M1 =>
    rw [e] at h
    intro F1 α1 H1 vs g1 c1 r1
    refine k vs H1 r1.len.1 fun p hp => ?_
    obtain ⟨c2, g2⟩ := c1.alloc W hW hp (o := .tup vs) (fun z => z)
    replace h : postS W XW F α H ρ σ E (match parS ρ ts os ds with
      | some ρ => .nx ρ M1
      | none => .stuck) := h
    cases ep : parS ρ ts os ds with
    | none =>
      simp only [ep] at h
      exact h.elim
    | some ρ' =>
      simp only [ep] at h
      obtain ⟨q1, q2⟩ := par_sl (s.grow g1) (fun p fl o => by
        obtain ⟨j, o⟩ := o
        exact s.fre_not (r1.flag fl).1 j o) r1 ep
      exact h F1 α1 _ _ ⟨⟨(g1.trans0 g2).weak fun _ z => z.elim, c2⟩, q1.grow g2, fun p hp => (q2 p hp).imp id fun fl => (r1.flag fl).1⟩
theorem s_parT (hW : W.Good) (hK : X.K = W.K) {tg e : Expr} {pos : Pos} {ts : List Nat} {os : List Bool} {ta : TA} {tes : En → Mst → R (List D)} (hp : PS X (.Assign [tg] e pos) (tAsg (tTup ta) (gTup X.K ts.length (gNames ts)))) (ho : os.length = ts.length) (hz : os.length ≤ sizeLine) (ht : ∀ σ H K, tO W XW os tes σ H K → ta σ H K) :
    PS X (.Assign [tg] e pos) (tS W XW fun ρ M => (tes ρ M).toS fun ds M => match parS ρ ts os ds with
      | some ρ => .nx ρ M
      | none => .stuck) := PS.imp hp fun E σ H ⟨F, α, ρ, M, c, s, h⟩ => ht _ _ _ (parT_post hW c s h fun vs H1 hl hn =>
    ⟨by omega, fun p hp => ⟨p, vs, rfl, SqT.of upd_same, hl.trans ho, gNames_sets (hl.trans ho) (hn p hp)⟩⟩)
end
end Mi
end
section
set_option Elab.async false
set_option autoImplicit false
set_option linter.all false
set_option maxRecDepth 100000
set_option maxHeartbeats 8000000
/-! lists gone through while an exception is handled -/
namespace Mi
open PySem PySem.Spec PyProof.Rows L2
/-- the handled one, as it stands: its context is None -/
def HotO (x1 : Addr) (h : Heap) : Prop := ∃ (o : Obj) (vs : Array Value), h.get? x1 = some o ∧ o.data = .fields vs ∧ vs[2]? = some .none
theorem HotO.at_ {x1 : Addr} {h h' : Heap} (q : HotO x1 h) (k : ∀ o, h.get? x1 = some o → h'.get? x1 = some o) : HotO x1 h' := by
  obtain ⟨o, vs, h1, h2, h3⟩ := q
  exact ⟨o, vs, k o h1, h2, h3⟩
section
variable {prog : Program} {w : World} {A : Around} {E : Value → Shared → Prop} {s : Shared}
/-- a list's iterator at its end, something being handled -/
theorem list_end_hot {it l x1 : Addr} {i : Nat} {items : Array Value} {Q : Option Value → Shared → Prop} (hh : A.handled = some (.ref x1)) (hx1 : HotO x1 s.heap) (hne : x1 ≠ it)
    (hit : s.heap.IsListIter it l i) (hl : s.heap.IsList l items) (hx : items[i]? = none)
    (hQ : ∀ h', Heap.ExtBut it s.heap h' → Q none { s with heap := h' }) : wpAny (model prog w) A (pyNext (.ref it)) Q E s := by
  obtain ⟨oi, gi, ci, di⟩ := id hit
  obtain ⟨ol, gl, _, nl, dl⟩ := hl
  obtain ⟨o1, vs1, g1, d1, c1⟩ := hx1
  unfold pyNext
  refine wpAny_bind (wpAny_attempt (wpAny_callSpecial?_slot (name := Str.ofString "__next__") hit.typeIs slot_listiter_next (wpAny_call_entry slot_listiter_next hit.typeIs entry_listiter_next ?_ (args_listiter_next _))))
  show wpAny _ _ (field (.ref it) 0 >>= fun c => _) _ _ s
  refine wpAny_bind (wpAny_field gi di (x := .ref l) rfl ?_)
  show wpAny _ _ (if (Value.ref l == Value.none) = true then _ else _) _ _ s
  rw [if_neg (fun z : (Value.ref l == Value.none) = true => Bool.false_ne_true z)]
  refine wpAny_bind (wpAny_field gi di (x := .int i 0) rfl (wpAny_bind (wpAny_seqItems gl dl ?_)))
  simp only [Int.toNat_natCast, hx]
  have u1 : (s.heap.update it (Obj.mapFields (·.setIfInBounds 0 Value.none))).get? x1 = some o1 := by
    rw [Heap.get?_update_other _ _ (Ne.symm hne)]
    exact g1
  refine wpAny_bind (wpAny_rule (wpAny_bind (wpAny_setField gi di (by simp) ?_)))
  show wpAny _ _ (newExc (.type "StopIteration") [] >>= fun e => _) _ _ _
  simp only [newExc, newTuple]
  refine wpAny_bind (wpAny_bind (wpAny_newObj_type (wpAny_bind (m := firstArgMember _ _) (wpAny_of_eq (a := Value.none) (by first | rfl | (simp only [firstArgMember]; rfl)) (wpAny_newObj_type ?_ (by size_fits)))) (by size_fits)))
  refine HotX.raiseNew_hot ⟨hh, o1, vs1, Heap.get?_push_of_some _ (Heap.get?_push_of_some _ u1), d1, c1⟩ (Nat.ne_of_lt (Heap.lt_size (Heap.get?_push_of_some _ u1))) (Heap.get?_push_size _ rfl) rfl (by first | (simp; done) | (simp; omega) | (simp only [Array.size_append]; simp; omega)) ?_
  refine wpAny_bind (wpAny_isInstance (T := "StopIteration") (b := true) ⟨_, Heap.get?_update_self _ (Heap.get?_push_size _ rfl) rfl, rfl⟩ isSubtype_stop (wpAny_pure (hQ _ fun b o hb e => ?_)))
  have e1 : (s.heap.update it (Obj.mapFields (·.setIfInBounds 0 Value.none))).get? b = some o := by
    rw [Heap.get?_update_other _ _ (Ne.symm hb)]
    exact e
  rw [Heap.get?_update_other _ _ (Nat.ne_of_gt (Heap.lt_size (Heap.get?_push_of_some _ e1)))]
  exact Heap.get?_push_of_some _ (Heap.get?_push_of_some _ e1)
/-- a list walked -/
theorem walks_hot (x1 I l : Addr) (hh : A.handled = some (.ref x1)) (n1 : x1 ≠ I) (n2 : l ≠ I) (its : Array Value) :
    Walks prog w A I [I, l, x1] [I] its.size (fun i v => its[i]? = some v) (fun i h => h.IsListIter I l i ∧ h.IsList l its ∧ HotO x1 h) where
  sub := fun b hb => by
    rw [List.mem_singleton] at hb
    rw [hb]
    exact List.mem_cons_self
  frame := fun i h h' st k => ⟨st.1.at fun o e => k I (by simp) o e, st.2.1.at fun o e => k l (by simp) o e, st.2.2.at_ fun o e => k x1 (by simp) o e⟩
  item := fun i s Q E hi st hQ => wpAny_pyNext_list_item st.1 st.2.1 (x := its[i]) (by simp [hi]) fun h' hit' sb =>
    hQ _ h' s.toks (by simp [hi]) ⟨hit', st.2.1.extBut sb.extBut n2, st.2.2.at_ fun o e => sb.extBut x1 o n1 e⟩ fun b o hb e => sb.extBut b o (fun z => hb (by rw [z]; exact List.mem_cons_self)) e
  done := fun s Q E st hQ => list_end_hot hh st.2.2 n1 st.1 st.2.1 (by simp) fun h' eb => hQ h' s.toks fun b o hb e => eb b o (fun z => hb (by rw [z]; exact List.mem_cons_self)) e
  self := fun i s Q E st hQ => wpAny_pyIter_listiter st.1 hQ
end
end Mi
end
section
set_option Elab.async false
set_option autoImplicit false
set_option linter.all false
set_option maxRecDepth 100000
set_option maxHeartbeats 8000000
namespace Mi
open PySem PySem.Spec PyProof.Rows L2 L2H
section
variable {X : Cx} {pins : List (Addr × Obj)} {σ : L2.St} {H : Hp} {s : Shared}
theorem hot_of (c : HotC X) (I : Inv X pins σ H s) : ∃ x1, X.A.handled = some (.ref x1) ∧ HotO x1 s.heap := by
  obtain ⟨x1, h1, h2⟩ := c.at I
  exact ⟨x1, h1, h2⟩
/-- sum of a list of numbers -/
theorem sum_hot (c : HotC X) : CallR X (.builtin "sum") (fun vs H Q => ∃ (a : Addr) (ns : List Int), vs = [V.ref a] ∧ SqL X.K H a (ns.map V.int) ∧ Q (.int ns.sum) H) := by
  intro pins s σ H vs us Q I r h
  obtain ⟨a, ns, rfl, hs, q⟩ := h
  obtain ⟨its, rv, hl, _⟩ := I.list hs
  obtain ⟨x1, hh, hx⟩ := hot_of c I
  rw [Vals.ref1 r]
  obtain ⟨xs, e⟩ := rv.ints.allInts.items
  have hn : numsOf (intItems xs).toList = ns := by rw [← e]; exact rv.ints.numsOf
  rw [nums_intItems] at hn
  have hl2 := hl.isList
  rw [e] at hl2
  have la : a < s.heap.objs.size := by
    obtain ⟨_, z, _⟩ := hl2
    exact Heap.lt_size z
  have lx : x1 < s.heap.objs.size := by
    obtain ⟨_, _, z, _⟩ := hx
    exact Heap.lt_size z
  refine call_sum_walkAnyS (wpAny_pyIter_list hl2 ?_)
  refine ⟨_, _, _, _, _, _, _, numAt xs, rfl, (walks_hot (A := X.A.in1) x1 s.heap.objs.size a hh (Nat.ne_of_lt lx) (Nat.ne_of_lt la) (intItems xs)).toS, ⟨⟨_, Heap.get?_push_size _ rfl, rfl, rfl⟩, hl2.push _, hx.at_ fun o e => Heap.get?_push_of_some _ e⟩, fun b hb => ?_, fun i v hv => intItems_at hv, fun s' t' m => ?_⟩
  · show b < (s.heap.push _).objs.size
    rw [Heap.size_push]
    simp only [List.mem_cons, List.not_mem_nil, or_false] at hb
    rcases hb with rfl | rfl | rfl
    · exact Nat.lt_succ_self _
    · exact Nat.lt_succ_of_lt la
    · exact Nat.lt_succ_of_lt lx
  · obtain ⟨h', tk, rfl, hk'⟩ := PySem.W.moved_old rfl rfl m
    refine ⟨.int _, H, I.kept hk', ⟨t', ?_⟩, q⟩
    rw [preSum_eq, List.take_of_length_le (by simp [intItems]), hn]
end
end Mi
end
section
set_option Elab.async false
set_option autoImplicit false
set_option linter.all false
set_option maxRecDepth 100000
set_option maxHeartbeats 8000000
namespace Mi
open PySem PySem.Spec PyProof.Rows L2 L2H
/-- [elt for target in l], l a list: vs its items, ws what they give -/
def tLcHot (K : PySem.W.Frag) (ti : TE) (g : TG) (te : TE) (own : List Nat) : TE := fun σ H Q => ti σ H fun v H1 => ∃ (a : Addr) (vs ws : List V), v = .ref a ∧ SqL K H1 a vs ∧ vs.length ≤ sizeLine ∧ ws.length = vs.length ∧
  (∀ (j : Nat) (x w : V), vs[j]? = some x → ws[j]? = some w → ∀ (H2 : Hp) (R : L2.St → Hp → Prop), (∀ σ2, L2.wipe σ2 own = L2.wipe σ own → (∀ (Q' : VK), Q' w H2 → te σ2 H2 Q') → R σ2 H2) → g x (L2.wipe σ own) H2 R) ∧
  ∀ D : Addr, H1 D = none → Q (.ref D) (upd H1 D (.lst ws))
section
variable {X : Cx} {pins : List (Addr × Obj)} {σ : L2.St} {H : Hp} {s : Shared}
theorem pe_lcHot {elt tg iter : Expr} {scope : Scope} {own : List (Str × Nat)} {pos : Pos} {ti : TE} {g : TG} {te : TE} (c : HotC X) (hN : X.N.Nodup) (hi : PE X iter ti) (ok : BlkOk X.N X.env.scope scope own)
    (hg : ∀ (s : Shared) (H : Hp) (C : Addr) (cl : List (Str × Addr)) (fp : List Addr), PG (X.blk s H scope (compEnvC scope cl C X.env) fp) tg g)
    (he : ∀ (s : Shared) (H : Hp) (C : Addr) (cl : List (Str × Addr)) (fp : List Addr), PE (X.blk s H scope (compEnvC scope cl C X.env) fp) elt te)
    (hs : ∀ x, foldedSetIterable iter X.env x = pure x) :
    PE X (.ListComp elt [⟨tg, iter, [], 0⟩] scope pos) (tLcHot X.K ti g te (own.map (·.2))) := by
  refine ⟨fun pins s σ H Q I h => ?_⟩
  rw [eval_ListComp]
  have hfree : ∀ y ∈ scope.names, y.2 = .free → ∃ c, X.env.cells.lookup y.1 = some c := fun y hy e => (ok.free y hy e).elim (fun k => I.ok.has _ (.inl k)) fun k => I.ok.has _ (.inr k)
  refine wpAny_comprehension_free rfl hs (closure_ok hfree) ok.kind (fun y hy e => (ok.uniq y hy).trans (by rw [e])) ?_
  refine thn (hi.run pins s σ H _ I h) fun u s1 hx => ?_
  obtain ⟨v, H1, I1, r1, a, vs, ws, rfl, hq, hz, hw, hstep, hQ⟩ := hx
  obtain rfl : u = Value.ref a := r1
  obtain ⟨its, rv, hp, _⟩ := I1.list hq
  refine wpAny_pyIter_list hp.isList ?_
  -- the iterator
  generalize hit : s1.heap.objs.size = it
  have itn : H1 it = none := I1.hok.fresh (Nat.le_of_eq hit)
  have fp1 : FpOk X pins H1 it := I1.fpOk (Nat.le_of_eq hit) itn
  have I2 : Inv X pins σ H1 { s1 with heap := s1.heap.push { cls := .type "list_iterator", data := .fields #[.ref a, .int 0 0] } } := I1.kept (t' := s1.toks) fun b o e => Heap.get?_push_of_some _ e
  generalize hs2 : ({ s1 with heap := s1.heap.push { cls := .type "list_iterator", data := .fields #[.ref a, .int 0 0] } } : Shared) = s2 at I2 ⊢
  have st2 : s2.heap.IsListIter it a 0 := by
    rw [← hs2, ← hit]
    exact ⟨_, Heap.get?_push_size _ rfl, rfl, rfl⟩
  -- the list that is made
  refine wpAny_newObj_type (newEnv_comp ?_) (by show 0 ≤ sizeLine; decide)
  generalize hD : s2.heap.objs.size = D
  have Dn : H1 D = none := I2.hok.fresh (Nat.le_of_eq hD)
  have iD : it < D := by
    rw [← hD, ← hs2, ← hit]
    show s1.heap.objs.size < (s1.heap.push _).objs.size
    rw [Heap.size_push]
    exact Nat.lt_succ_self _
  generalize hs3 : ({ s2 with heap := s2.heap.push { cls := .type "list", data := .seq ([] : List Value).toArray } } : Shared) = s3
  have h3 : s3.heap = s2.heap.push { cls := .type "list", data := .seq ([] : List Value).toArray } := by rw [← hs3]
  have I3 : Inv X pins σ (upd H1 D (.lst [])) s3 := by
    rw [← hs3]
    refine I2.laid (t' := s2.toks) (fun b o e => Heap.get?_push_of_some _ e) (Nat.le_of_eq hD) ⟨Nat.zero_le _, [], 0, .nil, ?_⟩
    rw [← hD]
    exact Heap.get?_push_size _ rfl
  have st3 : s3.heap.IsListIter it a 0 := st2.at fun o e => by
    rw [h3]
    exact Heap.get?_push_of_some _ e
  have fp3 : FpOk X pins (upd H1 D (.lst [])) it := ⟨by rw [upd_ne (Nat.ne_of_lt iD)]; exact itn, fp1.2⟩
  have lt3 : it < s3.heap.objs.size := by
    rw [h3, Heap.size_push, hD]
    exact Nat.lt_succ_of_lt iD
  -- what is handled
  obtain ⟨p, ⟨hh, vs1, pd, pc⟩, hpn⟩ := c
  obtain ⟨pg1, pn, pL, pF, _⟩ := I3.pin p (List.mem_append_left _ hpn)
  have pS : p.1 ∉ frs X.stack := fun z => by
    rcases List.mem_cons.mp (I3.stkSub p.1 z) with q | q
    · exact pL q
    · exact pF q
  have pit : p.1 ≠ it := fp3.2.2.2.2.2 p (List.mem_append_left _ hpn)
  have I4 := block_start (fp := [it]) I3 ok hN fun b hb => by
    rw [List.mem_singleton] at hb
    subst hb
    exact ⟨fp3, lt3⟩
  have pg := hg s3 (upd H1 D (.lst [])) s3.heap.objs.size (cellsFrom (s3.heap.objs.size + 1) scope.names (cloFrom X.env.cells scope.names [])) [it]
  have pe := he s3 (upd H1 D (.lst [])) s3.heap.objs.size (cellsFrom (s3.heap.objs.size + 1) scope.names (cloFrom X.env.cells scope.names [])) [it]
  show codeAny _ _ (.compStart (.ListComp elt [⟨tg, iter, [], 0⟩] scope pos) 0 (.ref it) (.ref D) (compEnvC scope (cellsFrom (s3.heap.objs.size + 1) scope.names (cloFrom X.env.cells scope.names [])) s3.heap.objs.size X.env)) (compPost (model X.prog X.w) X.A X.xe none _ (.ref D) s3.heap.objs.size) { s3 with heap := pushCells (s3.heap.push { cls := .type "dict", data := .dict #[] }) scope.names }
  generalize hce : compEnvC scope (cellsFrom (s3.heap.objs.size + 1) scope.names (cloFrom X.env.cells scope.names [])) s3.heap.objs.size X.env = ce at I4 pg pe ⊢
  have cL : ce.locals = s3.heap.objs.size := by
    subst hce
    rfl
  generalize hs4 : ({ s3 with heap := pushCells (s3.heap.push { cls := .type "dict", data := .dict #[] }) scope.names } : Shared) = s4 at I4 ⊢
  have st4 : s4.heap.IsListIter it a 0 := st3.at fun o e => by
    rw [← hs4]
    exact pushCells_keeps _ _ _ _ (Heap.get?_push_of_some _ e)
  generalize hB : X.blk s3 (upd H1 D (.lst [])) scope ce [it] = B at I4 pg pe
  have hBA : B.A = X.A := by subst hB; rfl
  have loop : codeAny (model X.prog X.w) X.A (.compLoop (.ListComp elt [⟨tg, iter, [], 0⟩] scope pos) 0 (.ref it) (.ref D) ce) (compPost (model X.prog X.w) X.A X.xe none (fun v s' => EP X pins σ Q v s') (.ref D) s3.heap.objs.size) s4 := by
    refine compLoop_any (fun n s' => ∃ i, n = vs.length - i ∧ i ≤ vs.length ∧ Inv B [] (L2.wipe σ (own.map (·.2))) (upd H1 D (.lst (ws.take i))) s' ∧ s'.heap.IsListIter it a i) ?_ vs.length ⟨0, rfl, Nat.zero_le _, I4, st4⟩
    rintro n s5 ⟨i, rfl, hi5, I5, st5⟩
    subst hB
    have hot5 : HotO p.1 s5.heap := ⟨p.2, vs1, I5.base.keep p.1 p.2 pg1 pn pS (by simpa using pit), pd, pc⟩
    have sq5 : SqL X.K (upd H1 D (.lst (ws.take i))) a vs := Same.seq (fun b o e => by rw [upd_ne (ne_of_none e Dn)]; exact e) hq
    obtain ⟨its5, rv5, hp5, _⟩ := I5.list sq5
    have hl5 := rv5.length
    have in5 : (upd H1 D (.lst (ws.take i))) it = none := by
      rw [upd_ne (Nat.ne_of_lt iD)]
      exact itn
    have fp5 : FpOk (X.blk s3 (upd H1 D (.lst [])) scope ce [it]) [] (upd H1 D (.lst (ws.take i))) it :=
      ⟨in5, (I5.ok.exf it (by simp)).1, I5.ok.exfs it (by simp), .inl (by simp), fun x c e => (I5.ok.exf it (by simp)).2 x c e, fun q hq => absurd (show q ∈ ([] : List (Addr × Obj)) ++ [] from hq) (by simp)⟩
    obtain ⟨f0, f1, f2, f3, f4, f5⟩ := fp5
    by_cases hend : i = vs.length
    · -- its end
      refine thnF (list_end_hot (x1 := p.1) hh hot5 pit st5 hp5.isList (by simp; omega) (Q := fun r s' => r = none ∧ Inv (X.blk s3 (upd H1 D (.lst [])) scope ce [it]) [] (L2.wipe σ (own.map (·.2))) (upd H1 D (.lst (ws.take i))) s') fun h' eb => ⟨rfl, I5.turned (t' := s5.toks) (fun b o hb e => eb b o hb e) f0 f1 f3 f4 f5⟩) fun r s6 hr => ?_
      obtain ⟨rfl, I6⟩ := hr
      have I7 : Inv X pins σ (upd H1 D (.lst (ws.take i))) s6 := I3.call' (ch := [it]) I6.os I6.base I6.hok I6.bare fun b hb => by
        rw [List.mem_singleton] at hb
        subst hb
        exact ⟨fp3.2.2.2.1, fp3.2.1, fp3.2.2.2.2.1, fp3.2.2.2.2.2⟩
      have nC : (upd H1 D (.lst (ws.take i))) s3.heap.objs.size = none := by
        have z : (upd H1 D (.lst (ws.take i))) ce.locals = none := I6.free
        rw [cL] at z
        exact z
      obtain ⟨m, hn, _⟩ := I6.loc
      have hn : s6.heap.Ns ce.locals m := hn
      rw [cL] at hn
      obtain ⟨g0, g1, g2, g3, g4, g5⟩ := I3.fpOk (Nat.le_refl _) nC
      have hQ' := hQ D Dn
      rw [show ws.take i = ws from List.take_of_length_le (by omega)] at I7 g0
      exact ⟨m, hn, fun h'' sb => ⟨.ref D, _, I7.turned (t' := s6.toks) (fun b o hb e => (sb.2 b hb).trans e) g0 g1 g3 g4 g5, rfl, hQ'⟩⟩
    · -- one more
      have hlt : i < vs.length := by omega
      obtain ⟨u5, hu5, ru5⟩ := rv5.get (List.getElem?_eq_getElem hlt)
      refine thnF (wpAny_pyNext_list_item (E := fun _ _ => False) st5 hp5.isList (x := u5) (by simpa using hu5) (Q := fun r s' => ∃ u, r = some u ∧ RelV vs[i] u ∧ Inv (X.blk s3 (upd H1 D (.lst [])) scope ce [it]) [] (L2.wipe σ (own.map (·.2))) (upd H1 D (.lst (ws.take i))) s' ∧ s'.heap.IsListIter it a (i + 1)) fun h' st' sb => ⟨u5, rfl, ru5, I5.turned (t' := s5.toks) (fun b o hb e => (sb.2 b hb).trans e) f0 f1 f3 f4 f5, st'⟩) fun r s6 hr => ?_
      obtain ⟨u, rfl, ru, I6, st6⟩ := hr
      obtain ⟨o6, e6, c6, d6⟩ := id st6
      refine go_of (s := s6) e6 c6 d6 (by decide) ?_
      have fp6 : ∀ b ∈ [it], FpOk (X.blk s3 (upd H1 D (.lst [])) scope ce [it]) [] (upd H1 D (.lst (ws.take i))) b := fun b hb => by
        rw [List.mem_singleton] at hb
        subst hb
        exact ⟨f0, f1, f2, f3, f4, f5⟩
      have I6' := I6.pinned fp6 fun b hb => by
        rw [List.mem_singleton] at hb
        subst hb
        exact ⟨o6, e6, fun v z => by rw [d6] at z; cases z⟩
      have hwi : ws[i]? = some ws[i] := List.getElem?_eq_getElem (by omega)
      have stp := hstep i vs[i] ws[i] (List.getElem?_eq_getElem hlt) hwi (upd H1 D (.lst (ws.take i))) (fun σ2 H2 => H2 = upd H1 D (.lst (ws.take i)) ∧ L2.wipe σ2 (own.map (·.2)) = L2.wipe σ (own.map (·.2)) ∧ ∀ Q' : VK, Q' ws[i] H2 → te σ2 H2 Q') fun σ2 hw2 hk => ⟨rfl, hw2, hk⟩
      refine thnF (pg.run _ s6 _ _ vs[i] u _ I6' ru stp) fun _ s8 ⟨σ8, H8, I8, q8⟩ => ?_
      obtain ⟨rfl, hw8, q8⟩ := q8
      refine wpAny_tests_nil ?_
      simp only [if_true]
      refine thnF (pe.run _ s8 σ8 _ (fun z H9 => z = ws[i] ∧ H9 = upd H1 D (.lst (ws.take i))) I8 (q8 _ ⟨rfl, rfl⟩)) fun z s10 hz10 => ?_
      obtain ⟨yv, H10, I10, r10, rfl, rfl⟩ := hz10
      have tl : (ws.take i).length < sizeLine := by
        rw [List.length_take]
        omega
      refine app_ok (X := X.blk s3 (upd H1 D (.lst [])) scope ce [it]) I10 upd_same tl r10 fun s11 I11 => ?_
      have e11 : upd (upd H1 D (.lst (ws.take i))) D (.lst (ws.take i ++ [ws[i]])) = upd H1 D (.lst (ws.take (i + 1))) := by
        rw [List.take_add_one, hwi]
        funext b
        by_cases hb : b = D
        · subst hb
          rw [upd_same, upd_same]
          rfl
        · rw [upd_ne hb, upd_ne hb, upd_ne hb]
      rw [e11] at I11
      have hlen : (L2.wipe σ (own.map (·.2))).length = σ8.length := by rw [← hw8, wipe_length]
      refine ⟨vs.length - (i + 1), by omega, i + 1, rfl, hlt, (I11.unpinned (pins := [])).weak hlen (fun j v e => ?_), st6.at fun o e => ?_⟩
      · rw [← hw8] at e
        exact (wipe_some e).1
      · exact (I11.pin (it, o) (List.mem_append_right _ (List.mem_append_right _ (mem_pinsAt (by simp) e)))).1
  exact codeAny_compStart_list loop (wpAny_pyIter_listiter st4 loop)
end
end Mi
end
section
set_option Elab.async false
set_option autoImplicit false
set_option linter.all false
set_option maxRecDepth 100000
set_option maxHeartbeats 8000000
/-! what an exception is told as, in the suite that caught it -/
namespace Mi
open PySem PySem.Spec PyProof.Rows L2 L2H
section
variable {X : Cx}
/-- isinstance(e, c), e a pinned exception -/
theorem isE_hot {D a : Addr} {oe : Obj} (C : ExcC X.K D) (hp : (a, oe) ∈ X.pn) (hz : Zc (.ref D) none oe) (hf : ∃ vs, oe.data = .fields vs) : CallR X (.builtin "isinstance") (rIsE X.K D a) := by
  intro pins s σ H xs us Q I r h
  obtain ⟨c, cv, b, rfl, hcv, e, q⟩ := h
  obtain ⟨u1, us1, rfl⟩ : ∃ u us', us = u :: us' := by
    cases r with
    | cons r1 r2 => exact ⟨_, _, rfl⟩
  cases r with
  | cons rx rr =>
    cases rr with
    | cons rt rn =>
      cases rn
      cases rx
      obtain rfl := hcv _ rt
      obtain ⟨vs, hv⟩ := hf
      have J : PySem.W.InstAt s.heap a oe D none := by
        have hget := (I.pin (a, oe) (List.mem_append_left _ hp)).1
        obtain ⟨c1, d1, t1, l1⟩ := oe
        obtain ⟨z1, z2⟩ := hz
        dsimp only at z1 z2 hv
        subst z1 z2 hv
        exact ⟨hget, rfl, rfl, trivial⟩
      exact PySem.W.kia_one (PySem.W.handS_kitx_exc C.hg C.hk C.hs C.hd C.ha C.hn C.ht C.hm) I.kIn J e (fun z => nomatch z) fun tk => ⟨.bl b, H, I.kept (t' := tk) fun _ _ z => z, rfl, q⟩
/-- the exception's place: slot i; b: what isinstance says -/
def tIs (i : Nat) (a : Addr) (b : Bool) : TE := fun σ H Q => σ[i]? = some (some (.ref a)) ∧ Q (.bl b) H
theorem pe_is {D a : Addr} {oe : Obj} {i : Nat} {e c : Str} {p1 p2 p3 pos : Pos} {v : V} {cv : Value} {b : Bool} (C : ExcC X.K D) (hp : (a, oe) ∈ X.pn) (hz : Zc (.ref D) none oe) (hf : ∃ vs, oe.data = .fields vs)
    (hgi : Gl X "isinstance") (hmi : X.mg "isinstance" = none) (he : PE X (.Name e p2) (tVar i)) (hc : PE X (.Name c p3) (tC v)) (hv : ∀ u, RelV v u → u = cv) (hk : PySem.W.kitOne X.K (.ref D) cv = some b) :
    PE X (.Call (.Name "isinstance" p1) [.Name e p2, .Name c p3] [] pos) (tIs i a b) :=
  PE.imp (pe_callB (isE_hot C hp hz hf) hgi hmi boot_isinstance (pa_cons he (pa_cons hc pa_nil rfl) rfl) (by decide) (by decide) rfl rfl) fun σ H Q h => ⟨.ref a, h.1, v, cv, b, rfl, hv, hk, h.2⟩
/-- some of them, in a row -/
theorem pa_is {i : Nat} {a : Addr} : ∀ {es : List Expr} {bs : List Bool}, es.length = bs.length → (∀ (j : Nat) (e : Expr) (b : Bool), es[j]? = some e → bs[j]? = some b → PE X e (tIs i a b) ∧ noStar e = true) → PA X es (fun σ H Q => σ[i]? = some (some (.ref a)) ∧ Q (bs.map .bl) H)
  | [], [], _, _ => PA.imp pa_nil fun σ H Q h => h.2
  | [], _ :: _, h, _ => by cases h
  | _ :: _, [], h, _ => by cases h
  | e :: es, b :: bs, hl, h => PA.imp (pa_cons (h 0 e b rfl rfl).1 (pa_is (es := es) (bs := bs) (by simpa using hl) fun j e b h1 h2 => h (j + 1) e b (by simpa using h1) (by simpa using h2)) (star_of (h 0 e b rfl rfl).2)) fun σ H Q k => ⟨k.1, k.1, k.2⟩
/-- a statement's reading: from (σ, H) to (σ', H') -/
theorem PS.imp' {st : Stmt} {t t' : TS} (h : PS X st t) (k : ∀ D σ H, t' D σ H → t D σ H) : PS X st t' := PS.imp h k
end
end Mi
end
section
set_option Elab.async false
set_option autoImplicit false
set_option linter.all false
set_option maxRecDepth 100000
set_option maxHeartbeats 8000000
namespace Mi
open PySem PySem.Spec PyProof.Rows L2 L2H
/-- the bits of the k-th of nine -/
def bitsOf (k : Nat) : List Bool := (List.range 9).map fun j => decide (j = k)
theorem bits_sum {k : Nat} (h : k < 9) : ((bitsOf k).map fun b => if b then (1 : Int) else 0).sum = 1 := by
  rcases (show k = 0 ∨ k = 1 ∨ k = 2 ∨ k = 3 ∨ k = 4 ∨ k = 5 ∨ k = 6 ∨ k = 7 ∨ k = 8 by omega) with rfl | rfl | rfl | rfl | rfl | rfl | rfl | rfl | rfl <;> rfl
def namesL : List Str := ["BadRing", "BadRow", "BadNumber", "BadCell", "BadLooks", "Nothing", "Full", "BadText", "BadShuts"]
section
variable {X : Cx} {i : Nat} {a : Addr}
theorem pa_strs : ∀ {es : List Expr} {ks : List Str}, es.length = ks.length → (∀ (j : Nat) (e : Expr) (x : Str), es[j]? = some e → ks[j]? = some x → ∃ jj p, e = .Constant (.str x) jj p) → PA X es (fun σ H Q => Q (ks.map .str) H)
  | [], [], _, _ => pa_nil
  | [], _ :: _, h, _ => by cases h
  | _ :: _, [], h, _ => by cases h
  | e :: es, x :: ks, hl, h => by
    obtain ⟨jj, p, rfl⟩ := h 0 e x rfl rfl
    exact PA.imp (pa_cons pe_str (pa_strs (es := es) (ks := ks) (by simpa using hl) fun j e x h1 h2 => h (j + 1) e x (by simpa using h1) (by simpa using h2)) (star_of rfl)) fun σ H Q k => k
/-- one's own list: it stands at p, nothing else is known of it -/
theorem t_lst {es : List Expr} {pos : Pos} {t : TA} {vs : List V} (ha : PA X es t) (hl : vs.length ≤ sizeLine) {c : L2.St → Prop} (ht : ∀ σ H (Q : List V → Hp → Prop), c σ → Q vs H → t σ H Q) : PE X (.List es pos) (fun σ H Q => c σ ∧ ∀ p, H p = none → Q (.ref p) (upd H p (.lst vs))) :=
  PE.imp (pe_lst ha) fun σ H Q h => ht σ H _ h.1 ⟨hl, h.2⟩
theorem PSs.imp' {b : List Stmt} {t t' : TS} (h : PSs X b t) (k : ∀ D σ H, t' D σ H → t D σ H) : PSs X b t' := ⟨fun pins s σ H D I q => h.run pins s σ H D I (k D σ H q)⟩
theorem sub_new {H H' : Hp} {p : Addr} {o : HO} (h : H p = none) (s : ∀ b u, H b = some u → H' b = some u) : ∀ b u, H b = some u → upd H' p o b = some u := fun b u e => by
  rw [upd_ne (ne_of_none e h)]
  exact s b u e
theorem sub_none {H H' : Hp} {p : Addr} (s : ∀ b u, H b = some u → H' b = some u) (h : H' p = none) : H p = none := by
  cases q : H p with
  | none => rfl
  | some u =>
    have := s p u q
    rw [h] at this
    cases this
/-- a test by a truth -/
theorem pt_is {e : Expr} {b : Bool} (h : PE X e (tIs i a b)) (hp : plainTest e = true) : PT X e (fun σ H Q => σ[i]? = some (some (.ref a)) ∧ Q b H) := PT.imp (pt_val h (test_of hp)) fun σ H Q k => ⟨k.1, b, rfl, k.2⟩
/-- the whole suite's def -/
theorem term_body (c : HotC X) (hN : X.N.Nodup) (hu : X.A.units + 65 < cLine) {k : Nat} (hk : k < 9)
    {e1 e2 : List Expr} {x3 x5 : Expr} {ks : List Expr} {scope : Scope} {own : List (Str × Nat)} {otr : Str}
    {q1 q2 q3 q4 q5 q6 q7 q8 q9 q10 q11 q12 q13 q14 q15 q16 q17 q18 q19 q20 q21 q22 q23 q24 q25 q26 q27 q28 q29 q30 q31 q32 r1 r2 r3 r4 r7 r8 r9 r10 r11 : Pos} {j1 j2 j3 j4 j5 j6 j7 : Nat}
    (v1 : ∀ p, PE X (.Name "_law_flags" p) (tVar 1)) (v2 : ∀ p, PE X (.Name "_law_kinds" p) (tVar 2)) (g1 : ∀ p, PG X (.Name "_law_flags" p) (gName 1)) (g2 : ∀ p, PG X (.Name "_law_kinds" p) (gName 2))
    (h1 : PA X e1 (fun σ H Q => σ[0]? = some (some (.ref a)) ∧ Q (((bitsOf k).take 4).map .bl) H)) (h2 : PA X e2 (fun σ H Q => σ[0]? = some (some (.ref a)) ∧ Q ((((bitsOf k).drop 4).take 4).map .bl) H))
    (h3 : PE X x3 (tIs 0 a (decide (8 = k)))) (n3 : noStar x3 = true) (h4 : PA X ks (fun σ H Q => Q (namesL.map .str) H)) (h5 : PE X x5 (tIs 0 a true))
    (p5 : plainTest x5 = true)
    (l3 : (q5.endLine == q6.line) = true) (l6 : (q25.endLine == q26.line) = true)
    (gs : Gl X "sum") (ms : X.mg "sum" = none) (ok : BlkOk X.N X.env.scope scope own) (ho : own.map (·.2) = [3])
    (bg : ∀ (s : Shared) (H : Hp) (C : Addr) (cl : List (Str × Addr)) (fp : List Addr) (p : Pos), PG (X.blk s H scope (compEnvC scope cl C X.env) fp) (.Name "_law_flag" p) (gName 3))
    (bv : ∀ (s : Shared) (H : Hp) (C : Addr) (cl : List (Str × Addr)) (fp : List Addr) (p : Pos), PE (X.blk s H scope (compEnvC scope cl C X.env) fp) (.Name "_law_flag" p) (tVar 3))
    (bi : ∀ (s : Shared) (H : Hp) (C : Addr) (cl : List (Str × Addr)) (fp : List Addr), Gl (X.blk s H scope (compEnvC scope cl C X.env) fp) "int") (mi : X.mg "int" = none) :
    PSs X [.Assign [.Name "_law_flags" q1] (.List e1 q2) q3, .Assign [.Name "_law_flags" q4] (.BinOp (.Name "_law_flags" q7) .Add (.List e2 q8) q9) q10,
      .Expr (.Call (.Attribute (.Name "_law_flags" q11) "append" q5) [x3] [] q6) q12, .Assign [.Name "_law_kinds" q13] (.List ks q14) q15,
      .If (.BoolOp .Or [.Compare (.Call (.Name "sum" q16) [.ListComp (.Call (.Name "int" q17) [.Name "_law_flag" q18] [] q19) [⟨.Name "_law_flag" q20, .Name "_law_flags" q21, [], 0⟩] scope q22] [] q23) [.NotEq] [.Constant (.int 1) j1 q24] q27, .UnaryOp .Not x5 q28] q29) [.Return (some (.Tuple [.Constant (.str "refused") j2 q30, .Constant (.str otr) j3 q31] j4 q32)) r1] [] r2,
      .Return (some (.Tuple [.Constant (.str "refused") j5 r3, .Subscript (.Name "_law_kinds" r4) (.Call (.Attribute (.Name "_law_flags" r7) "index" q25) [.Constant (.bool true) j6 r8] [] q26) r9] j7 r10)) r11]
      (fun D σ H => (∃ s1 s2 s3, σ = [some (.ref a), s1, s2, s3]) ∧ ∀ (H' : Hp) (p : Addr), (∀ b o, H b = some o → H' b = some o) → H p = none → H' p = some (.tup [.str "refused", .str (namesL.getD k "")]) → D.rt (.ref p) H') := by
  have sw1 : ∀ (es : List Expr) (p : Pos) (l : Nat) (tg : Expr), swapsWithSole [tg] (.List es p) l X.env = pure false := fun es p l tg => by
    unfold swapsWithSole
    exact sw_of rfl
  have st1 := ps_asg (pos := q3) (pe_lst (pos := q2) h1) (g1 q1) (sw1 _ _ _ _) rfl rfl
  have st2 := ps_asg (pos := q10) (pe_op (pos := q9) o_add (v1 q7) (pe_lst (pos := q8) h2)) (g1 q4) (by unfold swapsWithSole; exact sw_of rfl) rfl rfl
  have hst : starEach [x3] X.env = (false, eval x3 X.env) :: starEach [] X.env := star_of n3
  have st3 := ps_expr (pos := q12) (pe_bm PySem.F.plainAttrs_list PySem.F.slot_list_append PySem.F.type_list_append mt_append (v1 q11) (pa_cons h3 pa_nil hst) rfl (by rw [hst]; rfl) l3 hst rfl) (sw_of rfl)
  have st4 := ps_asg (pos := q15) (pe_lst (pos := q14) h4) (g2 q13) (sw1 _ _ _ _) rfl rfl
  have cmp := pe_lcHot (pos := q22) (elt := .Call (.Name "int" q17) [.Name "_law_flag" q18] [] q19) (tg := .Name "_law_flag" q20) c hN (v1 q21) ok (fun s H C cl fp => bg s H C cl fp q20) (fun s H C cl fp => pe_callTy c_int (bi s H C cl fp) mi boot_int (pa_cons (bv s H C cl fp q18) pa_nil rfl) (by decide) (by decide) rfl rfl) (fun x => rfl)
  have sm := pe_callB (p := q16) (pos := q23) (sum_hot c) gs ms boot_sum (pa_cons cmp pa_nil rfl) (by decide) (by decide) rfl rfl
  have tst := pw_or (pos := q29) (pt_cmpR (pos := q27) op_ne sm (pe_int (i := 1) (j := j1) (pos := q24)) rfl) (pw_or1 (pt_not (pos := q28) (pt_is h5 p5)))
  have b1 := pss_one (ps_ret (pos := r1) (pe_tup (x1 := j4) (pos := q32) (pa_cons (pe_str (X := X) (x := "refused") (j := j2) (pos := q30)) (pa_cons (pe_str (X := X) (x := otr) (j := j3) (pos := q31)) pa_nil rfl) rfl)))
  have st5 := ps_if (pos := r2) tst.pt b1 (pss_nil (X := X))
  have ixe : PE X (.Call (.Attribute (.Name "_law_flags" r7) "index" q25) [.Constant (.bool true) j6 r8] [] q26) _ := pe_bm PySem.F.plainAttrs_list PySem.F.slot_list_index PySem.F.type_list_index (mt_indexD hu) (v1 r7) (pa_cons pe_bl pa_nil rfl) rfl rfl l6 rfl rfl
  have sbe := pe_ix (pos := r9) ix_seq (v2 r4) ixe (plainIx_of rfl)
  have st6 := ps_ret (pos := r11) (pe_tup (x1 := j7) (pos := r10) (pa_cons (pe_str (X := X) (x := "refused") (j := j5) (pos := r3)) (pa_cons sbe pa_nil rfl) rfl))
  refine PSs.imp (pss_cons st1 (pss_cons st2 (pss_cons st3 (pss_cons st4 (pss_cons st5 (pss_one st6)))))) fun D σ H h => ?_
  obtain ⟨⟨s1, s2, s3, rfl⟩, h⟩ := h
  have bl : (bitsOf k).length = 9 := by simp [bitsOf]
  refine ⟨rfl, by simp [bl, sizeLine], fun p1 n1 => ?_⟩
  have S1 := sub_new (o := .lst (((bitsOf k).take 4).map V.bl)) n1 (fun b u (e : H b = some u) => e)
  refine ⟨.ref p1, rfl, rfl, by simp [bl, sizeLine], fun p2 n2 => ?_⟩
  have m2 := sub_none S1 n2
  have S2 := sub_new (o := .lst ((((bitsOf k).drop 4).take 4).map V.bl)) m2 S1
  have k12 : p1 ≠ p2 := fun z => by
    subst z
    rw [upd_same] at n2
    cases n2
  refine .inr (.inr (.inl ⟨p1, p2, ((bitsOf k).take 4).map V.bl, (((bitsOf k).drop 4).take 4).map V.bl, rfl, rfl, by rw [upd_ne k12, upd_same], upd_same, by simp [bl, sizeLine], fun p3 n3' => ?_⟩))
  have m3 := sub_none S2 n3'
  have S3 := sub_new (o := .lst (((bitsOf k).take 4).map V.bl ++ (((bitsOf k).drop 4).take 4).map V.bl)) m3 S2
  refine ⟨.ref p3, rfl, .inl ⟨rfl, _, SqL.of upd_same⟩, rfl, p3, _, _, rfl, rfl, upd_same, by simp [bl, sizeLine], ?_⟩
  have e9 : ((bitsOf k).take 4).map V.bl ++ (((bitsOf k).drop 4).take 4).map V.bl ++ [.bl (decide (8 = k))] = (bitsOf k).map V.bl := by
    rcases (show k = 0 ∨ k = 1 ∨ k = 2 ∨ k = 3 ∨ k = 4 ∨ k = 5 ∨ k = 6 ∨ k = 7 ∨ k = 8 by omega) with rfl | rfl | rfl | rfl | rfl | rfl | rfl | rfl | rfl <;> rfl
  rw [e9]
  have S4 := sub_new (o := .lst ((bitsOf k).map V.bl)) m3 S3
  generalize hH4 : upd (upd (upd (upd H p1 (.lst (((bitsOf k).take 4).map V.bl))) p2 (.lst ((((bitsOf k).drop 4).take 4).map V.bl))) p3 (.lst (((bitsOf k).take 4).map V.bl ++ (((bitsOf k).drop 4).take 4).map V.bl))) p3 (.lst ((bitsOf k).map V.bl)) = H4 at S4 ⊢
  have f4 : H4 p3 = some (.lst ((bitsOf k).map V.bl)) := by rw [← hH4, upd_same]
  refine ⟨by simp [namesL, sizeLine], fun p4 n4' => ?_⟩
  have m4 := sub_none S4 n4'
  have S5 := sub_new (o := .lst (namesL.map V.str)) m4 S4
  have k34 : p3 ≠ p4 := fun z => by
    subst z
    rw [f4] at n4'
    cases n4'
  have f5 : upd H4 p4 (.lst (namesL.map V.str)) p3 = some (.lst ((bitsOf k).map V.bl)) := by rw [upd_ne k34, f4]
  -- the test
  refine ⟨.ref p3, rfl, p3, (bitsOf k).map V.bl, (bitsOf k).map fun b => V.int (if b then 1 else 0), rfl, SqL.of f5, by simp [bl, sizeLine], by simp, ?_, ?_⟩
  · intro j x w hx hw H2 R hR
    rw [List.getElem?_map] at hx hw
    obtain ⟨b, eb, rfl⟩ := Option.map_eq_some_iff.mp hx
    rw [eb] at hw
    cases hw
    rw [ho] at hR ⊢
    refine hR _ rfl fun Q' hq => ⟨.bl b, rfl, .inl (.inr ⟨b, rfl, hq⟩)⟩
  · intro p5 n5'
    have m5 := sub_none S5 n5'
    have S6 := sub_new (o := .lst ((bitsOf k).map fun b => V.int (if b then 1 else 0))) m5 S5
    have k35 : p3 ≠ p5 := fun z => by
      subst z
      rw [f5] at n5'
      cases n5'
    have f6 : upd (upd H4 p4 (.lst (namesL.map V.str))) p5 (.lst ((bitsOf k).map fun b => V.int (if b then 1 else 0))) p3 = some (.lst ((bitsOf k).map V.bl)) := by rw [upd_ne k35, f5]
    have k45 : p4 ≠ p5 := fun z => by
      subst z
      rw [upd_same] at n5'
      cases n5'
    have f7 : upd (upd H4 p4 (.lst (namesL.map V.str))) p5 (.lst ((bitsOf k).map fun b => V.int (if b then 1 else 0))) p4 = some (.lst (namesL.map V.str)) := by rw [upd_ne k45, upd_same]
    refine ⟨p5, (bitsOf k).map fun b => if b then 1 else 0, rfl, SqL.of (by rw [upd_same, List.map_map]; rfl), ?_⟩
    generalize upd (upd H4 p4 (.lst (namesL.map V.str))) p5 (.lst ((bitsOf k).map fun b => V.int (if b then 1 else 0))) = H6 at S6 f6 f7
    rw [bits_sum hk]
    refine ⟨rfl, false, rfl, ?_⟩
    simp only [Bool.false_eq_true, if_false]
    refine ⟨rfl, ?_⟩
    simp only [Bool.not_true, Bool.false_eq_true, if_false]
    -- what is told
    have hat : (bitsOf k)[k]? = some true := by
      unfold bitsOf
      rw [List.getElem?_map, List.getElem?_range hk]
      simp
    have hname : atI (namesL.map V.str) (k : Int) = some (.str (namesL.getD k "")) := by
      unfold atI ixN
      rw [if_pos (by omega), if_pos (by simp [namesL]; omega)]
      show (namesL.map V.str)[(k : Int).toNat]? = _
      rw [Int.toNat_natCast, List.getElem?_map, List.getD_eq_getElem?_getD]
      rcases (show k = 0 ∨ k = 1 ∨ k = 2 ∨ k = 3 ∨ k = 4 ∨ k = 5 ∨ k = 6 ∨ k = 7 ∨ k = 8 by omega) with rfl | rfl | rfl | rfl | rfl | rfl | rfl | rfl | rfl <;> rfl
    refine ⟨.ref p4, rfl, .ref p3, rfl, .inl ⟨rfl, _, SqL.of f6⟩, p3, .bl true, .bool true, (bitsOf k).map .bool, k, .bool true, rfl, rfl, .lst (SqL.of f6) ?_, .bl true, ?_, rfl, by rw [List.getElem?_map, hat]; rfl, rfl, ?_, ?_⟩
    · generalize bitsOf k = bs
      induction bs with
      | nil => exact .nil
      | cons b bs ih => exact .cons (.bl b) ih
    · rcases (show k = 0 ∨ k = 1 ∨ k = 2 ∨ k = 3 ∨ k = 4 ∨ k = 5 ∨ k = 6 ∨ k = 7 ∨ k = 8 by omega) with rfl | rfl | rfl | rfl | rfl | rfl | rfl | rfl | rfl <;> decide +kernel
    · intro m z' hm hz
      rw [List.getElem?_map] at hz
      obtain ⟨b, eb, rfl⟩ := Option.map_eq_some_iff.mp hz
      unfold bitsOf at eb
      rw [List.getElem?_map, List.getElem?_range (by omega)] at eb
      cases eb
      have : ¬ m = k := by omega
      simp [this, PyData.eqv]
    · refine .inl ⟨p4, _, k, _, rfl, rfl, SqL.of f7, hname, ?_⟩
      refine ⟨by simp [sizeLine], fun p n => ?_⟩
      exact h _ p (sub_new (sub_none S6 n) S6) (sub_none S6 n) upd_same
end
end Mi
end
section
set_option Elab.async false
set_option autoImplicit false
set_option linter.all false
set_option maxRecDepth 100000
set_option maxHeartbeats 8000000
/-! the def that tells, checked -/
namespace Mi
open PySem PySem.Spec PyProof.Rows L2 L2H
def relab (scope sc : Scope) : Scope := { scope with names := scope.names.map fun (n, k) => if (k == .free && sc.kind == .function && sc.names.lookup n == some .cell) then (n, .cell) else (n, k) }
def vN : List Str := ["_law_e", "_law_flags", "_law_kinds", "_law_flag"]
def isCall (c : Str) : Expr → Bool
  | .Call (.Name i _) [.Name x _, .Name y _] [] _ => decide (i = "isinstance") && decide (x = "_law_e") && decide (y = c)
  | _ => false
theorem isCall_eq {c : Str} {x : Expr} (h : isCall c x = true) : ∃ p1 p2 p3 p4, x = .Call (.Name "isinstance" p1) [.Name "_law_e" p2, .Name c p3] [] p4 := by
  unfold isCall at h
  split at h
  · simp only [Bool.and_eq_true, decide_eq_true_eq] at h
    obtain ⟨⟨rfl, rfl⟩, rfl⟩ := h
    exact ⟨_, _, _, _, rfl⟩
  · cases h
def strIs (x : Str) : Expr → Bool
  | .Constant (.str y) _ _ => decide (y = x)
  | _ => false
theorem strIs_eq {c : Str} {x : Expr} (h : strIs c x = true) : ∃ j p, x = .Constant (.str c) j p := by
  unfold strIs at h
  split at h
  · simp only [decide_eq_true_eq] at h
    subst h
    exact ⟨_, _, rfl⟩
  · cases h
def allIs (f : Str → Expr → Bool) : List Str → List Expr → Bool
  | [], [] => true
  | n :: ns, e :: es => f n e && allIs f ns es
  | _, _ => false
theorem allIs_len {f : Str → Expr → Bool} : ∀ {ns : List Str} {es : List Expr}, allIs f ns es = true → es.length = ns.length
  | [], [], _ => rfl
  | [], _ :: _, h => by cases h
  | _ :: _, [], h => by cases h
  | n :: ns, e :: es, h => by
    unfold allIs at h
    rw [Bool.and_eq_true] at h
    rw [List.length_cons, List.length_cons, allIs_len h.2]
theorem allIs_at {f : Str → Expr → Bool} : ∀ {ns : List Str} {es : List Expr} {j : Nat} {n : Str} {e : Expr}, allIs f ns es = true → ns[j]? = some n → es[j]? = some e → f n e = true
  | [], [], j, n, e, _, h1, _ => by simp at h1
  | [], _ :: _, _, _, _, h, _, _ => by cases h
  | _ :: _, [], _, _, _, h, _, _ => by cases h
  | n :: ns, e :: es, 0, _, _, h, h1, h2 => by
    unfold allIs at h
    rw [Bool.and_eq_true] at h
    cases h1
    cases h2
    exact h.1
  | n :: ns, e :: es, j + 1, _, _, h, h1, h2 => by
    unfold allIs at h
    rw [Bool.and_eq_true] at h
    exact allIs_at h.2 (by simpa using h1) (by simpa using h2)
def testOk (sc : Scope) : Expr → Bool
  | .BoolOp .Or [.Compare (.Call (.Name s _) [.ListComp (.Call (.Name i _) [.Name f _] [] _) [⟨.Name g _, .Name h _, [], 0⟩] scope _] [] _) [.NotEq] [.Constant (.int n) _ _] _, .UnaryOp .Not x5 _] _ =>
    decide (s = "sum") && decide (i = "int") && decide (f = "_law_flag") && decide (g = "_law_flag") && decide (h = "_law_flags") && decide (n = 1) && isCall "ValueError" x5 && blkC vN sc scope [("_law_flag", 3)] && ((relab scope sc).names.lookup ("_law_flag" : Str) == some .local) && ((relab scope sc).names.lookup ("int" : Str) == some .globalImplicit)
  | _ => false
theorem testOk_eq {sc : Scope} {e : Expr} (h : testOk sc e = true) : ∃ (scope : Scope) (x5 : Expr) (q16 q17 q18 q19 q20 q21 q22 q23 q24 q27 q28 q29 : Pos) (j1 : Nat), e = .BoolOp .Or [.Compare (.Call (.Name "sum" q16) [.ListComp (.Call (.Name "int" q17) [.Name "_law_flag" q18] [] q19) [⟨.Name "_law_flag" q20, .Name "_law_flags" q21, [], 0⟩] scope q22] [] q23) [.NotEq] [.Constant (.int 1) j1 q24] q27, .UnaryOp .Not x5 q28] q29 ∧ isCall "ValueError" x5 = true ∧ blkC vN sc scope [("_law_flag", 3)] = true ∧ (relab scope sc).names.lookup ("_law_flag" : Str) = some .local ∧ (relab scope sc).names.lookup ("int" : Str) = some .globalImplicit := by
  unfold testOk at h
  split at h
  · simp only [Bool.and_eq_true, decide_eq_true_eq, beq_iff_eq] at h
    obtain ⟨⟨⟨⟨⟨⟨⟨⟨⟨rfl, rfl⟩, rfl⟩, rfl⟩, rfl⟩, rfl⟩, h1⟩, h2⟩, h3⟩, h4⟩ := h
    exact ⟨_, _, _, _, _, _, _, _, _, _, _, _, _, _, _, rfl, h1, h2, h3, h4⟩
  · cases h
def globs : List Str := (["isinstance", "sum", "ValueError"] : List Str) ++ namesL
def termChk (sc : Scope) : List Stmt → Bool
  | [.Assign [.Name a1 _] (.List e1 _) _, .Assign [.Name a2 _] (.BinOp (.Name a3 _) .Add (.List e2 _) _) _, .Expr (.Call (.Attribute (.Name a4 _) m p5) [x3] [] p6) _, .Assign [.Name a5 _] (.List ks _) _, .If t5 [.Return (some (.Tuple [.Constant (.str r1) _ _, .Constant (.str _) _ _] _ _)) _] [] _,
      .Return (some (.Tuple [.Constant (.str r3) _ _, .Subscript (.Name a6 _) (.Call (.Attribute (.Name a7 _) m2 p25) [.Constant (.bool b) _ _] [] p26) _] _ _)) _] =>
    decide (a1 = "_law_flags") && decide (a2 = "_law_flags") && decide (a3 = "_law_flags") && decide (a4 = "_law_flags") && decide (a5 = "_law_kinds") && decide (a6 = "_law_kinds") && decide (a7 = "_law_flags") && decide (m = "append") && decide (m2 = "index") && decide (r1 = "refused") && decide (r3 = "refused") && b && (p5.endLine == p6.line) && (p25.endLine == p26.line) &&
      allIs isCall (namesL.take 4) e1 && allIs isCall ((namesL.drop 4).take 4) e2 && isCall "BadShuts" x3 && allIs strIs namesL ks && testOk sc t5 &&
      (sc.names.lookup ("_law_e" : Str) == some .local) && (sc.names.lookup ("_law_flags" : Str) == some .local) && (sc.names.lookup ("_law_kinds" : Str) == some .local) && globs.all (fun x => sc.names.lookup x == some .globalImplicit)
  | _ => false
/-- what is known of the classes: the k-th of nine -/
structure Clss (K : PySem.W.Frag) (mg : Str → Option Value) (cl : Nat → Addr) : Prop where
  mg : ∀ k, k < 9 → mg (namesL.getD k "") = some (.ref (cl k))
  exc : ∀ k, k < 9 → ExcC K (cl k)
  kit : ∀ k j, k < 9 → j < 9 → PySem.W.kitOne K (.ref (cl k)) (.ref (cl j)) = some (decide (j = k))
  val : ∀ k, k < 9 → PySem.W.kitOne K (.ref (cl k)) (.type "ValueError") = some true
section
variable {X : Cx}
theorem term_ok {cl : Nat → Addr} {k : Nat} (hk : k < 9) {a : Addr} {oe : Obj} {body : List Stmt} (C : Clss X.K X.mg cl) (hN : X.N = vN) (c : HotC X) (hu : X.A.units + 65 < cLine) (hp : (a, oe) ∈ X.pn) (hz : Zc (.ref (cl k)) none oe) (hf : ∃ vs, oe.data = .fields vs)
    (m1 : X.mg "isinstance" = none) (m2 : X.mg "sum" = none) (m3 : X.mg "int" = none) (m4 : X.mg "ValueError" = none) (h : termChk X.env.scope body = true) :
    PSs X body (fun D σ H => (∃ s1 s2 s3, σ = [some (.ref a), s1, s2, s3]) ∧ ∀ (H' : Hp) (p : Addr), (∀ b o, H b = some o → H' b = some o) → H p = none → H' p = some (.tup [.str "refused", .str (namesL.getD k "")]) → D.rt (.ref p) H') := by
  unfold termChk at h
  split at h
  · simp only [Bool.and_eq_true, decide_eq_true_eq, beq_iff_eq] at h
    obtain ⟨⟨⟨⟨⟨⟨⟨⟨⟨⟨⟨⟨⟨⟨⟨⟨⟨⟨⟨⟨⟨⟨rfl, rfl⟩, rfl⟩, rfl⟩, rfl⟩, rfl⟩, rfl⟩, rfl⟩, rfl⟩, rfl⟩, rfl⟩, rfl⟩, l3⟩, l6⟩, a1⟩, a2⟩, a3⟩, a4⟩, a5⟩, n0⟩, n1⟩, n2⟩, gg⟩ := h
    obtain ⟨scope, x5, q16, q17, q18, q19, q20, q21, q22, q23, q24, q27, q28, q29, j1, rfl, t1, t2, t3, t4⟩ := testOk_eq a5
    have nd : X.N.Nodup := by
      rw [hN]
      decide
    have gl : ∀ x, x ∈ globs → Gl X x := fun x hx => by
      have := List.all_eq_true.mp gg x hx
      exact eq_of_beq this
    have v0 : ∀ p, PE X (.Name "_law_e" p) (tVar 0) := fun p => pe_var (by rw [hN]; rfl) (.inl n0)
    have cls : ∀ (j : Nat) (x : Expr), j < 9 → isCall (namesL.getD j "") x = true → PE X x (tIs 0 a (decide (j = k))) ∧ noStar x = true := fun j x hj hx => by
      obtain ⟨p1, p2, p3, p4, rfl⟩ := isCall_eq hx
      have hdb : ((namesL.getD j "") == ("__debug__" : Str)) = false := by
        rcases (show j = 0 ∨ j = 1 ∨ j = 2 ∨ j = 3 ∨ j = 4 ∨ j = 5 ∨ j = 6 ∨ j = 7 ∨ j = 8 by omega) with rfl | rfl | rfl | rfl | rfl | rfl | rfl | rfl | rfl <;> rfl
      have hm : namesL.getD j "" ∈ globs := by
        rcases (show j = 0 ∨ j = 1 ∨ j = 2 ∨ j = 3 ∨ j = 4 ∨ j = 5 ∨ j = 6 ∨ j = 7 ∨ j = 8 by omega) with rfl | rfl | rfl | rfl | rfl | rfl | rfl | rfl | rfl <;> decide
      exact ⟨pe_is (C.exc k hk) hp hz hf (gl _ (by decide)) m1 (v0 p2) (pe_glob (v := .ref (cl j)) (gl _ hm) (C.mg j hj) rfl hdb) (fun u r => r) (C.kit k j hk hj), rfl⟩
    have at4 : ∀ (ns : List Str) (bs : List Bool) (es : List Expr) (o : Nat), ns.length = bs.length → allIs isCall ns es = true → (∀ j, j < ns.length → ns[j]? = some (namesL.getD (o + j) "") ∧ bs[j]? = some (decide (o + j = k)) ∧ o + j < 9) → PA X es (fun σ H Q => σ[0]? = some (some (.ref a)) ∧ Q (bs.map .bl) H) := fun ns bs es o hl ha hj => by
      have hle := allIs_len ha
      refine pa_is (by omega) fun j e b h1 h2 => ?_
      have hj9 : j < ns.length := by
        have := (List.getElem?_eq_some_iff.mp h1).1
        omega
      obtain ⟨k1, k2, k3⟩ := hj j hj9
      rw [k2] at h2
      cases h2
      exact cls (o + j) e k3 (allIs_at ha k1 h1)
    have bitAt : ∀ j, j < 9 → (bitsOf k)[j]? = some (decide (j = k)) := fun j hj => by
      unfold bitsOf
      rw [List.getElem?_map, List.getElem?_range hj]
      rfl
    have bl : (bitsOf k).length = 9 := by simp [bitsOf]
    have nat : ∀ j, j < 9 → namesL[j]? = some (namesL.getD j "") := fun j hj => by
      rw [List.getD_eq_getElem?_getD, List.getElem?_eq_getElem hj]
      rfl
    have h1 := at4 (namesL.take 4) ((bitsOf k).take 4) _ 0 (by simp [bl, namesL]) a1 fun j hj => by
      have hj : j < 4 := by simpa [namesL] using hj
      rw [Nat.zero_add]
      exact ⟨by rw [List.getElem?_take, if_pos hj, nat j (by omega)], by rw [List.getElem?_take, if_pos hj, bitAt j (by omega)], by omega⟩
    have h2 := at4 ((namesL.drop 4).take 4) (((bitsOf k).drop 4).take 4) _ 4 (by simp [bl, namesL]) a2 fun j hj => by
      have hj : j < 4 := by simpa [namesL] using hj
      exact ⟨by rw [List.getElem?_take, if_pos hj, List.getElem?_drop, nat (4 + j) (by omega)], by rw [List.getElem?_take, if_pos hj, List.getElem?_drop, bitAt (4 + j) (by omega)], by omega⟩
    obtain ⟨h3, n3⟩ := cls 8 _ (by decide) a3
    have h4 := pa_strs (X := X) (ks := namesL) (allIs_len a4) fun j e x h1 h2 => strIs_eq (allIs_at a4 h2 h1)
    obtain ⟨p1, p2, p3, p4, rfl⟩ := isCall_eq t1
    have h5 := pe_is (pos := p4) (p1 := p1) (p3 := p3) (C.exc k hk) hp hz hf (gl _ (by decide)) m1 (v0 p2) (pe_bltn (v := .ty "ValueError") (gl ("ValueError" : Str) (by decide)) m4 (by decide +kernel) rfl (by decide) (by decide)) (fun u r => r) (C.val k hk)
    have ok := blkOk_by t2
    refine term_body (scope := scope) (own := [("_law_flag", 3)]) c nd hu hk (fun p => pe_var (by rw [hN]; rfl) (.inl n1)) (fun p => pe_var (by rw [hN]; rfl) (.inl n2)) (fun p => pg_name nd (by rw [hN]; rfl) (.inl n1) (.inr n1)) (fun p => pg_name nd (by rw [hN]; rfl) (.inl n2) (.inr n2)) h1 h2 h3 n3 h4 h5 rfl (beq_iff_eq.mpr l3) (beq_iff_eq.mpr l6) (gl _ (by decide)) m2 (by rw [hN]; exact ok) rfl ?_ ?_ ?_ m3
    · intro s H Ca cl fp p
      have e : (relab scope X.env.scope).names.lookup ("_law_flag" : Str) = some .local := t3
      exact pg_name (X := X.blk s H scope (compEnvC scope cl Ca X.env) fp) nd (by show X.N[3]? = _; rw [hN]; rfl) (.inl e) (.inr e)
    · intro s H Ca cl fp p
      have e : (relab scope X.env.scope).names.lookup ("_law_flag" : Str) = some .local := t3
      exact pe_var (X := X.blk s H scope (compEnvC scope cl Ca X.env) fp) (by show X.N[3]? = _; rw [hN]; rfl) (.inl e)
    · intro s H Ca cl fp
      have e : (relab scope X.env.scope).names.lookup ("int" : Str) = some .globalImplicit := t4
      exact e
  · cases h
end
end Mi
end
section
set_option Elab.async false
set_option autoImplicit false
set_option linter.all false
set_option maxRecDepth 100000
set_option maxHeartbeats 8000000
/-! a deed tried: what it tells, or how it is refused -/
namespace Mi
open PySem PySem.Spec PyProof.Rows L2 L2H
/-- a def run where the pinned exception is handled -/
theorem run_pin {CX : CXT} {P : Program} {w : World} {K : PySem.W.Frag} {mg : Str → Option Value} {base : Heap} {k : Nat} {f : Addr} {name qual : Str} {params : Arguments} {body : List Stmt} {scope : Scope} {dV kV doc pm cdv ct oc : Value} {an od : Option Addr} {osl : Array (Option Value)} {N ps : List Str}
    (lk : K.lookup f = some ⟨oc, od, .func (PySem.W.fnOf name qual params body scope dV kV doc pm an cdv ct), osl⟩) (hcd : PySem.W.codeIn K cdv qual = true) (S : FnScope N ps scope) {A : Around} {outer : List Env} {s : Shared} {H : Hp} {args : Args} {us : List Value} {vs : List V} {Q : VK} {E : XK} {p : Addr × Obj}
    (hr : RoomH (k + 1) A) (hpin : PinOk outer H s p) (e0 : Env0 P w K mg base A outer s H) (hb : BindsTo s (PySem.W.fnOf name qual params body scope dV kV doc pm an cdv ct) args (ps.zip us)) (r : Vals vs us) (hl : vs.length = ps.length)
    (hbody : RoomH k (A.deeper (envOfC qual scope s.heap.objs.size f cdv)) → ∃ t, PSs (cxH CX P w K mg base N qual scope f cdv A outer s H E p) body t ∧ t { nx := fun _ H' => Q .non H', rt := Q } (L2.start N vs) H) :
    codeAny (model P w) A (.call (.ref f) args) (CR CX outer P w H s Q E) s := by
  have stays : ∀ b o, base.get? b = some o → s.heap.get? b = some o := fun b o e => (e0.bs b o e).1
  have names : ∀ y ∈ ps.zip us, scope.names.lookup y.1 = some .local ∨ (scope.names.lookup y.1 = some .cell ∧ ((cellsFrom (s.heap.objs.size + 1) scope.names []).lookup y.1).isSome = true) := fun y hy =>
    (S.par y.1 (List.of_mem_zip (a := y.1) (b := y.2) hy).1).imp id fun q => ⟨q, PySem.W.cellsFrom_some _ _ _ (.inl q)⟩
  refine codeAny_call_function hr.depth (e0.mod.kin.keeps stays _ _ lk) rfl S.co S.gen rfl (PySem.W.codeRec_of (e0.mod.kin.keeps stays) hcd) (hb _ _ _ _ (wpAny_newFunctionEnv_cells S.kind names fun env he s1 x => ?_))
  subst he
  refine ⟨(e0.mod.nolimit.keeps stays).keeps x.toInCall.keep, codeAny_func ?_⟩
  obtain ⟨t, ht, hq⟩ := hbody (hr.deeper _)
  refine wpAny_mono (ht.run [] s1 _ H _ (inv_startH S hpin e0 hl r x) hq) (fun fl s' hs => ?_) fun e s' hs => hs
  cases fl with
  | ret u => exact let ⟨v, _, H', J, rv, q⟩ := hs; ⟨v, H', J.os, J.bare, J.base, J.hok, rv, q⟩
  | next => exact let ⟨_, H', J, q⟩ := hs; ⟨V.non, H', J.os, J.bare, J.base, J.hok, rfl, q⟩
  | brk => exact let ⟨_, _, _, q⟩ := hs; q.elim
  | cont => exact let ⟨_, _, _, q⟩ := hs; q.elim
/-- what is told of the k-th class -/
def Told1 (k : Nat) (H : Hp) (Q : VK) : Prop := ∀ (H' : Hp) (T : Addr), (∀ b o, H b = some o → H' b = some o) → H T = none → H' T = some (.tup [.str "refused", .str (namesL.getD k "")]) → Q (.ref T) H'
/-- the two defs: the one that tells at ft, CartError at CS -/
structure TermDef (P : Program) (K : PySem.W.Frag) (mg : Str → Option Value) (cl : Nat → Addr) (CS ft : Addr) : Prop where
  clss : Clss K mg cl
  exm : ∀ k, k < 9 → PySem.W.exmOne K (.ref (cl k)) (.ref CS) = some true
  mcs : mg "CartError" = some (.ref CS)
  mft : mg "_law_term" = some (.ref ft)
  kp : PySem.W.keepIn K (.ref ft) = true
  m1 : mg "isinstance" = none
  m2 : mg "sum" = none
  m3 : mg "int" = none
  m4 : mg "ValueError" = none
  fn : ∃ st fd, FunD K "_law_term" "_law_term" (defArgs st) (defBody st) (defScope st) [] [] ft fd ∧ FnScope vN ["_law_e"] (defScope st) ∧ termChk (defScope st) (defBody st) = true ∧ Binds K fd ["_law_e"] []
section
variable {X : Cx}
/-- the call, in the suite -/
theorem pe_term {cl : Nat → Addr} {CS ft : Addr} {k : Nat} (hk : k < 9) {a : Addr} {oe : Obj} {pn : List (Addr × Obj)} {i : Nat} {e : Str} {q p pos : Pos} (T : TermDef X.prog X.K X.mg cl CS ft) (hr : RoomH 2 X.A) (hz : L2N.Zn (.ref (cl k)) none oe) (hf : ∃ vs, oe.data = .fields vs)
    (hg : Gl X "_law_term") (he : PE (X.suite a ((a, oe) :: pn)) (.Name e p) (tVar i)) :
    PE (X.suite a ((a, oe) :: pn)) (.Call (.Name "_law_term" q) [.Name e p] [] pos) (fun σ H Q => σ[i]? = some (some (.ref a)) ∧ Told1 k H Q) := by
  refine ⟨fun pins s σ H Q I h => ?_⟩
  obtain ⟨h1, h2⟩ := h
  obtain ⟨vs, hv⟩ := hf
  have hctx := hz.2.2 vs hv
  have hg' : Gl (X.suite a ((a, oe) :: pn)) "_law_term" := hg
  refine wpAny_Call_Name_kw (ld_glob I hg' T.mft ?_ (by decide))
  refine PySem.W.callWith_K (h₀ := X.base) I.ok.mod.kin T.kp (thn ((pa_cons he pa_nil rfl).run pos pins s σ H (fun us H1 => us = [.ref a] ∧ H1 = H) I ⟨.ref a, h1, rfl, rfl⟩) fun us s1 ⟨vs1, H1, I1, r, q1⟩ => ⟨I1.kIn, ?_⟩) rfl rfl
  obtain ⟨rfl, rfl⟩ := q1
  obtain ⟨st, fd, F, S, chk, B⟩ := T.fn
  obtain ⟨oc, od, dV, kV, doc, pm, an, cdv, ct, osl, rfl, lk, hcd, _, _⟩ := F.ex
  obtain ⟨p1, p2, p3, p4, p5⟩ := I1.pin (a, oe) (List.mem_append_left _ List.mem_cons_self)
  have hpin : PinOk X.stack H1 s1 (a, oe) := ⟨p1, p2, fun hm => (List.mem_cons.mp (I1.stkSub a hm)).elim p3 p4, p5⟩
  have b := B s1 us I1.kIn (by rw [List.append_nil, ← r.length]; rfl)
  rw [List.append_nil] at b
  have hr' : RoomH 2 (X.A.mark (some (.ref a))) := ⟨hr.dp, hr.un⟩
  have hot : Hot1 (X.A.mark (some (.ref a))) (a, oe) := ⟨rfl, vs, hv, hctx⟩
  refine wpAny_call (codeAny_mono (run_pin (CX := C8.CX0) (E := C8.E0) (Q := Q) lk hcd S hr' hpin I1.env0 b r rfl fun hr2 => ?_) fun rr s' hq => ?_)
  · refine ⟨_, PSs.nox (term_ok (X := (cxH C8.CX0 X.prog X.w X.K X.mg X.base vN "_law_term" (defScope st) ft cdv (X.A.mark (some (.ref a))) X.stack s1 H1 C8.E0 (a, oe)).nox) (cl := cl) (k := k) hk (a := a) (oe := oe) T.clss rfl ⟨(a, oe), ⟨rfl, vs, hv, hctx⟩, List.mem_cons_self⟩ ?_ List.mem_cons_self hz.zc ⟨vs, hv⟩ T.m1 T.m2 T.m3 T.m4 chk), ⟨none, none, none, rfl⟩, h2⟩
    have h9 : ∀ u : Nat, u + 16 * 1 + 200 < cLine → u + 65 < cLine := fun u h => by omega
    exact h9 _ hr2.un
  · cases rr with
    | error e => exact (show False from hq).elim
    | ok fl =>
      cases fl with
      | ret u => exact I1.after hq
      | next => exact False.elim hq
      | brk => exact False.elim hq
      | cont => exact False.elim hq
end
end Mi
end
section
set_option Elab.async false
set_option autoImplicit false
set_option linter.all false
set_option maxRecDepth 100000
set_option maxHeartbeats 8000000
namespace Mi
open PySem PySem.Spec PyProof.Rows L2 L2H LamX
theorem takes_no {X : Cx} : L2N.Takes X WXF := fun u s' h => by
  obtain ⟨a, B, sI, pins, σ, H, cls, d, _, _, _, _, _, _, _, _, w⟩ := h
  exact w.elim
/-- the def that calls the deed that it got (a, at f), in a context of X's -/
abbrev gCx (X : Cx) (Ng : List Str) (x : Str) (sg : Scope) (g : Addr) (cdg : Value) (s : Shared) (H : Hp) : Cx := cxOf C8.CX0 X.prog X.w X.K X.mg X.base Ng x sg g cdg X.A X.stack s H C8.E0
/-- the deed called there reads tl -/
def ActN (X : Cx) (Ng : List Str) (x : Str) (sg : Scope) (g : Addr) (cdg : Value) (a q : Str) (f c' : Addr) (s : Shared) (H : Hp) (tl : XK → Hp → VK → Prop) : Prop :=
  ∀ (W : WX) (pn : List (Addr × Obj)) (xe : Value → Shared → Prop) (E : XK) (p1 p2 : Pos), L2N.Takes ((gCx X Ng x sg g cdg s H).tr pn xe) W → (∀ cls d σ' H', E cls d H' → W cls d σ' H') →
    PE ((gCx X Ng x sg g cdg s H).tr pn xe) (.Call (.Name a p1) [] [] p2) (fun σZ HZ Q => σZ[0]? = some (some (.ref f)) ∧ HZ c' = some (CodeO c' q) ∧ tl E HZ Q)
/-- what is told of a refusal -/
def TTn (cl : Nat → Addr) : (XK → Hp → VK → Prop) → Hp → VK → Prop := fun tl H Q => tl (fun cls d H' => ∃ k, k < 9 ∧ cls = .ref (cl k) ∧ d = none ∧ Told1 k H' Q) H Q
theorem told_gives {X : Cx} {cl : Nat → Addr} {CS ft : Addr} {Ng : List Str} {x a q : Str} {sg : Scope} {g f c' : Addr} {cdg : Value} {s : Shared} {H : Hp} {Q : VK} {tl : XK → Hp → VK → Prop} {p1 p2 p3 p4 p5 p6 p7 p8 p9 p10 : Pos}
    (T : TermDef X.prog X.K X.mg cl CS ft) (hr : RoomH 3 X.A) (nd : Ng.Nodup) (n1 : Ng[1]? = some ("_law_e" : Str)) (l1 : sg.names.lookup ("_law_e" : Str) = some .local) (lc : sg.names.lookup ("CartError" : Str) = some .globalImplicit) (lt : sg.names.lookup ("_law_term" : Str) = some .globalImplicit)
    (h0 : (L2.start Ng [V.ref f])[0]? = some (some (V.ref f))) (act : ActN X Ng x sg g cdg a q f c' s H tl) (hc : H c' = some (CodeO c' q)) (h : TTn cl tl H Q) :
    ∃ t, PSs (gCx X Ng x sg g cdg s H).nox [.Try [.Return (some (.Call (.Name a p1) [] [] p2)) p3] [.ExceptHandler (some (.Name "CartError" p4)) (some "_law_e") [.Return (some (.Call (.Name "_law_term" p5) [.Name "_law_e" p6] [] p7)) p8] p9] [] [] p10] t ∧ t { nx := fun _ H' => Q .non H', rt := Q } (L2.start Ng [.ref f]) H := by
  have gl : Gl (gCx X Ng x sg g cdg s H).nox "CartError" := lc
  refine ⟨_, pss_one (L2N.ps_try_as (X := (gCx X Ng x sg g cdg s H).nox) (c := .ref CS) (i := 1) (Wout := WXF)
    (tb := fun W D σ H => ∃ E : XK, (∀ cls d σ' H', E cls d H' → W cls d σ' H') ∧ σ[0]? = some (some (.ref f)) ∧ H c' = some (CodeO c' q) ∧ tl E H D.rt)
    (ts := fun a cls d D σ H => ∃ k, k < 9 ∧ cls = .ref (cl k) ∧ d = none ∧ (∃ σ0 : L2.St, σ = σ0.set 1 (some (.ref a))) ∧ Told1 k H D.rt)
    rfl rfl nd n1 l1 ⟨gl, by decide, .inl T.mcs⟩ takes_no (fun W pn xe tk _ => ?_) fun b oe cls d pn hz hf => ?_), ?_⟩
  · refine ⟨fun pins s' σ H' D I h' => ?_⟩
    obtain ⟨E, hW, h1, h2, h3⟩ := h'
    exact (pss_one (ps_ret (pos := p3) (act W pn xe E p1 p2 tk hW))).run pins s' σ H' D I ⟨h1, h2, h3⟩
  · refine ⟨fun pins s' σ H' D I h' => ?_⟩
    obtain ⟨k, hk, rfl, rfl, ⟨σ0, rfl⟩, h2⟩ := h'
    have hlen : 1 < σ0.length := by
      have := I.len
      rw [List.length_set] at this
      rw [this]
      exact (List.getElem?_eq_some_iff.mp n1).1
    have h1 : (σ0.set 1 (some (V.ref b)))[1]? = some (some (V.ref b)) := List.getElem?_set_self hlen
    refine (pss_one (ps_ret (pos := p8) (pe_term (X := (gCx X Ng x sg g cdg s H).nox) (cl := cl) (CS := CS) (ft := ft) (i := 1) (q := p5) (p := p6) (pos := p7) hk (a := b) (oe := oe) (pn := pn) T ?_ hz hf lt (pe_var n1 (.inl l1))))).run pins s' _ H' D I ⟨h1, h2⟩
    exact hr.deeper _
  · refine ⟨fun cls d H' => ∃ k, k < 9 ∧ cls = .ref (cl k) ∧ d = none ∧ Told1 k H' Q, fun cls d σ' H' hx => ?_, h0, hc, h⟩
    obtain ⟨k, hk, rfl, rfl, ht⟩ := hx
    refine ⟨true, T.exm k hk, fun _ a ha => ⟨k, hk, rfl, rfl, ⟨σ', rfl⟩, ht⟩, fun z => by cases z⟩
end Mi
end
section
set_option Elab.async false
set_option autoImplicit false
set_option linter.all false
set_option maxRecDepth 100000
set_option maxHeartbeats 8000000
namespace Mi
open PySem PySem.Spec PyProof.Rows L2 L2H LamX
/-- what is wished of an exception that leaves the lambda -/
abbrev leaveN (X : Cx) (A : Around) (outer : List Env) (s : Shared) (H : Hp) (E : XK) (scope : Scope) (f c' : Addr) : Value → Shared → Prop := fun e s' =>
  wpAny (model X.prog X.w) (A.deeper (lamEnv X scope s.heap.objs.size f c')) (leaving (lamEnv X scope s.heap.objs.size f c') e) (fun _ s'' => L2N.CX X.prog X.w outer H s E e s'') (fun e' s'' => L2N.CX X.prog X.w outer H s E e' s'') s'
/-- the lambda's body running; what it lets out has no context -/
abbrev lamN (X : Cx) (A : Around) (outer : List Env) (s : Shared) (H : Hp) (E : XK) (scope : Scope) (f c' : Addr) : Cx := (lamCx X A outer s H E scope f c').tr [] (leaveN X A outer s H E scope f c')
section
variable {X : Cx} {pins : List (Addr × Obj)} {σ : L2.St} {H : Hp} {s : Shared}
theorem act_ok {Ng : List Str} {x a : Str} {sg : Scope} {g f c' : Addr} {cdg pm ctv : Value} {params : Arguments} {body : Expr} {scope : Scope} {k : Nat} {t : XK → TE}
    (I : Inv X pins σ H s) (L : LamS X.env.scope scope) (hf : s.heap.get? f = some (PySem.W.kla_obj "<lambda>" (X.env.qual ++ "<lambda>") params body scope (cloFrom X.env.cells scope.names []) pm c' ctv)) (nf : H f = none) (ns : f ∉ frs X.stack)
    (hbind : bindArgs (PySem.W.kla_fn "<lambda>" (X.env.qual ++ "<lambda>") params body scope (cloFrom X.env.cells scope.names []) pm (.ref c') ctv) ⟨[], []⟩ = pure []) (hr : Room (k + 1) (X.A.deeper (envOfC x sg s.heap.objs.size g cdg)))
    (hbody : ∀ (A : Around) (outer : List Env) (s : Shared) (H : Hp) (E : XK), Room k (A.deeper (lamEnv X scope s.heap.objs.size f c')) → PE (lamN X A outer s H E scope f c') body (t E))
    (n0 : Ng[0]? = some a) (hv : Vis sg a) (hd : (a == ("__debug__" : Str)) = false) (hcd : (a == ("__classdict__" : Str)) = false) : ActN X Ng x sg g cdg a (X.env.qual ++ "<lambda>") f c' s H (fun E H' Q' => t E σ H' Q') := by
  intro W pn xe E p1 p2 tk hW
  refine ⟨fun pinsZ sZ σZ HZ Q IZ h => ?_⟩
  obtain ⟨hs, hc, ht⟩ := h
  refine wpAny_Call_Name_kw (thn ((pe_var (pos := p1) (i := 0) n0 hv hd hcd).run pinsZ sZ σZ HZ (fun v H1 => v = .ref f ∧ H1 = HZ) IZ ⟨.ref f, hs, rfl, rfl⟩) fun u s1 hq => ?_)
  obtain ⟨v, H1, I1, r1, rfl, rfl⟩ := hq
  obtain rfl : u = Value.ref f := r1
  have f1 : s1.heap.get? f = some (PySem.W.kla_obj "<lambda>" (X.env.qual ++ "<lambda>") params body scope (cloFrom X.env.cells scope.names []) pm c' ctv) := I1.base.keep f _ hf nf ns (fun z => nomatch (show f ∈ ([] : List Addr) from z))
  refine PySem.W.callWith_F0 ⟨_, _, _, _, f1⟩ ?_
  have un : Un (frs X.stack) [] H H1 s.heap s1.heap := I1.base
  obtain ⟨⟨oc, vs, tt, hoc, hdc, hvc⟩, _, _⟩ := I1.hok c' _ hc
  have run : codeAny (model X.prog X.w) (X.A.deeper (envOfC x sg s.heap.objs.size g cdg)) (.call (.ref f) ⟨[], []⟩) (CR (L2N.CX X.prog X.w) (envOfC x sg s.heap.objs.size g cdg :: X.stack) X.prog X.w H1 s1 Q E) s1 := by
    refine PySem.W.kla_callFunE hr.depth f1 rfl L.co L.gen rfl ⟨c', oc, vs, tt, rfl, hoc, hdc, hvc⟩ ?_
    rw [hbind]
    refine wpAny_pure (wpAny_newFunctionEnv (fun y hy => (L.own y hy).2) (fun y hy => absurd hy (by simp)) (fun h₁ hns hsb => ⟨I1.nolimit.fresh _ hsb, ?_⟩) L.kind)
    show codeAny _ _ (.expr body (lamEnv X scope s1.heap.objs.size f c')) _ _
    have J := (lam_start2 (E := E) (f := f) (c' := c') (tk := s1.toks + ([] : List (Str × Value)).length) I L I1.env0 hr.hd un hns fun b o e => hsb.extBut b o (Nat.ne_of_lt (Heap.lt_size e)) (Heap.get?_push_of_some _ e)).toTry (leaveN X (X.A.deeper (envOfC x sg s.heap.objs.size g cdg)) (envOfC x sg s.heap.objs.size g cdg :: X.stack) s1 H1 E scope f c')
    refine PySem.W.kla_codeExpr (wpAny_mono ((hbody _ _ s1 H1 E (hr.deeper _)).run [] _ _ H1 Q J ht) (fun v s' hq => ?_) fun e s' hq => hq)
    obtain ⟨w', H', J', rv, q⟩ := hq
    exact ⟨w', H', J'.os, J'.bare, J'.base, J'.hok, rv, q⟩
  have hx := L2N.passes_call (X := (gCx X Ng x sg g cdg s H).tr pn xe) (E := E) tk hW
  refine wpAny_call (codeAny_mono run fun r s' hq => ?_)
  cases r with
  | error e => exact hx pinsZ σZ H1 s1 e s' I1 hq
  | ok fl =>
    cases fl with
    | ret u => exact I1.after hq
    | next => exact False.elim hq
    | brk => exact False.elim hq
    | cont => exact False.elim hq
end
end Mi
end
section
set_option Elab.async false
set_option autoImplicit false
set_option linter.all false
set_option maxRecDepth 100000
set_option maxHeartbeats 8000000
namespace Mi
open PySem PySem.Spec PyProof.Rows L2 L2H LamX
def toldChk (a : Str) (sc : Scope) : List Stmt → Bool
  | [.Try [.Return (some (.Call (.Name b _) [] [] _)) _] [.ExceptHandler (some (.Name c _)) (some n) [.Return (some (.Call (.Name t _) [.Name m _] [] _)) _] _] [] [] _] =>
    decide (b = a) && decide (c = "CartError") && decide (n = "_law_e") && decide (t = "_law_term") && decide (m = "_law_e") && !(a == ("__debug__" : Str)) && !(a == ("__classdict__" : Str)) && decide (a ≠ "_law_e") &&
      (sc.names.lookup a == some .local) && (sc.names.lookup ("_law_e" : Str) == some .local) && (sc.names.lookup ("CartError" : Str) == some .globalImplicit) && (sc.names.lookup ("_law_term" : Str) == some .globalImplicit)
  | _ => false
/-- the three defs: the one that tries at g, the one that tells at ft, CartError at CS -/
structure TellDef (P : Program) (K : PySem.W.Frag) (mg : Str → Option Value) (cl : Nat → Addr) (CS ft g : Addr) : Prop where
  term : TermDef P K mg cl CS ft
  mg : mg "_law_told" = some (.ref g)
  kp : PySem.W.keepIn K (.ref g) = true
  fn : ∃ st fd a, FunD K "_law_told" "_law_told" (defArgs st) (defBody st) (defScope st) [] [] g fd ∧ FnScope [a, "_law_e"] [a] (defScope st) ∧ toldChk a (defScope st) (defBody st) = true ∧ Binds K fd [a] []
section
variable {X : Cx}
theorem lam_call {cl : Nat → Addr} {CS ft g c P : Addr} {T : List (Addr × Str)} {k : Nat} {params : Arguments} {body : Expr} {scope : Scope} {t : XK → TE} {p lpos pos : Pos} (TD : TellDef X.prog X.K X.mg cl CS ft g) (TB : TabB X.base X.mg c P) (hcode : X.env.code = .ref c)
    (hmT : (P, X.env.qual ++ "<lambda>") ∈ T) (hu : ∀ p ∈ T, p.1 = P → p.2 = X.env.qual ++ "<lambda>") (hr : Room (k + 3) X.A) (L : LamS X.env.scope scope) (hdef : defaultsOf params X.env = ([], [])) (hg : Gl X "_law_told")
    (hbind : ∀ (q : Str) (cl : List (Str × Addr)) (pm cv ctv : Value), bindArgs (PySem.W.kla_fn "<lambda>" q params body scope cl pm cv ctv) ⟨[], []⟩ = pure [])
    (hbody : ∀ (A : Around) (outer : List Env) (s : Shared) (H : Hp) (E : XK) (f c' : Addr), Room k (A.deeper (lamEnv X scope s.heap.objs.size f c')) → PE (lamN X A outer s H E scope f c') body (t E)) :
    PE X (.Call (.Name "_law_told" p) [.Lambda params body scope lpos] [] pos) (tLam T (TTn cl) t) := by
  refine ⟨fun pins s σ H Q I h => ?_⟩
  obtain ⟨hT, h⟩ := h
  obtain ⟨st, fd, a, F, S, chk, B⟩ := TD.fn
  obtain ⟨oc, od, dV, kV, doc, pm, an, cdv, ct, osl, rfl, lk, hcd, _, _⟩ := F.ex
  refine wpAny_Call_Name_kw (ld_glob I hg TD.mg ?_ (by decide))
  refine PySem.W.callWith_K (h₀ := X.base) I.ok.mod.kin TD.kp ?_ rfl rfl
  show wpAny _ _ (spliced ((false, eval (.Lambda params body scope lpos) X.env) :: backTo pos (starEach [] X.env))) _ _ s
  refine Calls.spliced_cons (lam_make2 I TB hcode hmT hu hT hdef (L.has I.ok) fun f c' pm' ctv H1 s' I1 eN T1 hf nf ns hco => Calls.spliced_nil ⟨I1.kIn, ?_⟩)
  have b := B s' [.ref f] I1.kIn rfl
  rw [List.append_nil] at b
  have run : codeAny (model X.prog X.w) X.A (.call (.ref g) ⟨[.ref f], []⟩) (CR C8.CX0 X.stack X.prog X.w H1 s' Q C8.E0) s' := by
    refine run_ofS (N := [a, "_law_e"]) (ps := [a]) (us := [.ref f]) (vs := [.ref f]) lk hcd S (hr.mono (Nat.le_refl (k + 3))) I1.env0 b (.cons rfl .nil) rfl fun hr' => ?_
    unfold toldChk at chk
    split at chk
    · rename_i heq
      simp only [Bool.and_eq_true, decide_eq_true_eq, beq_iff_eq, Bool.not_eq_true', beq_eq_false_iff_ne] at chk
      obtain ⟨⟨⟨⟨⟨⟨⟨⟨⟨⟨⟨e0, rfl⟩, rfl⟩, rfl⟩, rfl⟩, d1⟩, d2⟩, d3⟩, l0⟩, l1⟩, l2⟩, l3⟩ := chk
      replace e0 := e0.symm
      subst e0
      rw [heq]
      obtain ⟨t', ht', hq'⟩ := told_gives (X := X) (Ng := [a, "_law_e"]) (s := s') (H := H1) (Q := Q) (f := f) (c' := c') (cdg := cdv) (g := g) (x := "_law_told") (q := X.env.qual ++ "<lambda>") (tl := fun E H' Q' => t E σ H' Q') TD.term (roomH_of (hr.mono (by omega))) S.nd rfl l1 l2 l3 rfl
        (act_ok (Ng := [a, "_law_e"]) (k := k) I1 L hf nf ns (hbind _ _ _ _ _) (hr'.mono (by omega)) (fun A outer s H E hr2 => hbody A outer s H E f c' hr2) rfl (.inl l0) (by simpa using d1) (by simpa using d2)) hco (h H1 eN T1)
      exact ⟨t', ht'.nox, hq'⟩
    · cases chk
  refine wpAny_call (codeAny_mono run fun r s2 hq => ?_)
  cases r with
  | error e => exact (show False from hq).elim
  | ok fl =>
    cases fl with
    | ret u => exact I1.after hq
    | next => exact False.elim hq
    | brk => exact False.elim hq
    | cont => exact False.elim hq
end
end Mi
end
section
set_option Elab.async false
set_option autoImplicit false
set_option linter.all false
set_option maxRecDepth 100000
set_option maxHeartbeats 8000000
namespace Mi
open PySem PySem.Spec PyProof.Rows L2 L2H LamX
section
variable {W : Wd} {XW : L2.WX} {F F' H H' : Hp} {α : List Addr} {M : Mst} {X : Cx}
/-- only tables and code objects are new -/
theorem CM.extN (c : CM W F α M H) (e : ExtN H H') (ht : W.tab W.T H') : CM W F α M H' ∧ Grow O0 F α H F α H' := by
  have key : ∀ b o, H b = some o → ¬ isTbl o → H' b = some o := fun b o h n => e b o h fun ps z => n (by rw [z]; trivial)
  refine ⟨⟨fun b o h => key b o (c.sub b o h) fun z => ?_, c.fro, c.len, c.nd, fun n a m e1 e2 => ?_, ht⟩, ⟨Same.refl _, ⟨[], by simp⟩, fun a o h _ _ n => key a o h n, fun a o h n => ⟨o, key a o h n, n⟩, fun a o h => .inl h, fun a h => .inl h⟩⟩
  · have := c.fro b o h
    cases o <;> first | exact z.elim | exact this.elim
  · obtain ⟨q1, q2⟩ := c.al n a m e1 e2
    refine ⟨q1.mono W (Same.refl _) ⟨[], by simp⟩ ?_, q2⟩
    obtain ⟨u, h1, h2⟩ := q1.there
    rw [h1]
    refine (key a u h1 ?_).symm
    rcases h2 with ⟨vs, rfl⟩ | ⟨C, dx, gs, rfl⟩
    · exact fun z => z
    · exact fun z => z
/-- all that stood, stands; a new tuple is known -/
theorem CM.told (hW : W.Good) (c : CM W F α M H) {T : Addr} {vs : List V} (s : ∀ b o, H b = some o → H' b = some o) (hT : H T = none) (hT' : H' T = some (.tup vs)) : CM W (upd F T (.tup vs)) α M H' ∧ Grow O0 F α H (upd F T (.tup vs)) α H' := by
  have fT : F T = none := by
    cases q : F T with
    | none => rfl
    | some u =>
      have := c.sub T u q
      rw [hT] at this
      cases this
  have sF : Same F (upd F T (.tup vs)) := fun b u e => by
    rw [upd_ne (ne_of_none e fT)]
    exact e
  refine ⟨⟨fun b u e => ?_, fun b u e => ?_, c.len, c.nd, fun n a m e1 e2 => ?_, hW _ _ c.tb fun b u e _ => s b u e⟩, ⟨sF, ⟨[], by simp⟩, fun a u h _ _ _ => s a u h, fun a u h n => ⟨u, s a u h, n⟩, fun a u h => ?_, fun a h => .inl h⟩⟩
  · by_cases hb : b = T
    · subst hb
      rw [upd_same] at e
      cases e
      exact hT'
    · rw [upd_ne hb] at e
      exact s b u (c.sub b u e)
  · by_cases hb : b = T
    · subst hb
      rw [upd_same] at e
      cases e
      trivial
    · rw [upd_ne hb] at e
      exact c.fro b u e
  · obtain ⟨q1, q2⟩ := c.al n a m e1 e2
    obtain ⟨u, h1, _⟩ := q1.there
    have ha : a ≠ T := ne_of_none h1 hT
    exact ⟨q1.mono W sF ⟨[], by simp⟩ (h1.trans (s a u h1).symm), by rw [upd_ne ha]; exact q2⟩
  · by_cases hb : a = T
    · subst hb
      exact .inr (.inl fun o e => by rw [hT] at e; cases e)
    · rw [upd_ne hb] at h
      exact .inl h
theorem m_told (hW : W.Good) (htab : W.tab = Tabs) {cl : Nat → Addr} (hca : ∀ c, c < 9 → ∃ k, k < 9 ∧ W.ca c = cl k ∧ namesL.getD k "" = kinds c) {e : Expr} {t : En → Mst → R D} (hp : PE X e (tLam W.T (TTn cl) fun E => tE W (fun cls d _ H => E cls d H) false t)) :
    PE X e (tE W XW false fun ρ M => toldR (t ρ M)) := PE.imp hp fun σ H Q ⟨F, α, ρ, M, c, s, h⟩ => by
  refine ⟨by have := c.tb; rw [htab] at this; exact this, fun H1 hx hT => ?_⟩
  obtain ⟨c1, g1⟩ := c.extN hx (by rw [htab]; exact hT)
  refine ⟨F, α, ρ, M, c1, s.grow g1, ?_⟩
  dsimp only at h
  cases e : t ρ M with
  | ok d M' =>
    rw [e] at h
    exact PQ.grow g1 h
  | stuck =>
    rw [e] at h
    exact h
  | exc n M' =>
    rw [e] at h
    unfold toldR at h
    dsimp only at h
    by_cases hn : n < 9
    · rw [if_pos hn] at h
      intro F2 α2 H2 g2 c2
      obtain ⟨k, hk, e1, e2⟩ := hca n hn
      refine ⟨k, hk, by rw [e1], rfl, fun H3 T s3 n3 e3 => ?_⟩
      obtain ⟨c3, g3⟩ := CM.told hW c2 s3 n3 e3
      refine h _ _ _ (.ref T) ((g1.trans0 g2).trans0 g3) c3 (.inl ⟨T, _, rfl, .inl upd_same, ?_, by simp [sizeLine]⟩)
      rw [e2]
      exact ⟨_, _, rfl, rfl, _, _, rfl, rfl, rfl⟩
    · rw [if_neg hn] at h
      exact h.elim
end
end Mi
end
section
set_option Elab.async false
set_option autoImplicit false
set_option linter.all false
set_option maxRecDepth 100000
set_option maxHeartbeats 4000000
/-! tuples that a method may be asked of; dicts -/
namespace Mi
open PySem PySem.Spec PyProof.Rows L2
section
variable {X : Cx}
theorem call_tupleF : CallR X (.type "tuple") (fun xs H Q => ∃ p ys, xs = [.ref p] ∧ SqL X.K H p ys ∧ ∀ l its n, H l = none → Q (.ref l) (upd H l (.frz { cls := .type "tuple", data := .seq its n } (.tup ys)))) := by
  intro pins s σ H xs us Q I r h
  obtain ⟨p, ys, rfl, hq, q⟩ := h
  obtain ⟨u, rfl, rx⟩ := vals1 r
  cases rx
  obtain ⟨its, r', pl, hz⟩ := I.list hq
  have hlen := r'.length
  refine call_tuple_list pl.isList (fun h' kp => ?_) (by simp only [List.size_toArray] <;> omega)
  have I1 : Inv X pins σ H { s with heap := h' } := I.kept (t' := s.toks) kp
  have I2 : Inv X pins σ (upd H h'.objs.size (.frz { cls := .type "tuple", data := .seq its.toArray } (.tup ys))) { s with heap := h'.push { cls := .type "tuple", data := .seq its.toArray } } :=
    I1.laid (t' := s.toks) (fun b o e => Heap.get?_push_of_some _ e) (Nat.le_refl _) (show ObjOk X.prog X.w _ _ _ (.frz _ (.tup ys)) from ⟨Heap.get?_push_size _ rfl, hz, its, r', IsTup.new _ _⟩)
  exact ⟨.ref h'.objs.size, _, I2, rfl, q _ _ _ (I1.hok.fresh (Nat.le_refl _))⟩
theorem mt_indexT : MtR X "tuple.index" (fun x xs H Q => ∃ (p : Addr) (ns : List Int) (k : Int), x = .ref p ∧ xs = [.int k] ∧ SqT X.K H p (ns.map V.int) ∧ k ∈ ns ∧ Q (.int (ns.idxOf k : Nat)) H) := by
  intro pins s σ H x xs v us Q I rx rs h
  obtain ⟨p, ns, k, rfl, rfl, hq, hi, q⟩ := h
  cases rx
  obtain ⟨u, rfl, t, rfl⟩ := vals1 rs
  obtain ⟨its, r, ho, hz⟩ := I.tuple hq
  exact PySem.SeqAt.tuple_index_ints ho (L2.intsAre_of r) hi ⟨.int _, H, I.tok _, ⟨_, rfl⟩, q⟩
def tTix (to te : TE) : TE := fun σ H Q => to σ H fun x H1 => ∃ p its n vs, x = .ref p ∧ H1 p = some (.frz { cls := .type "tuple", data := .seq its n } (.tup vs)) ∧
  tCons te tNil σ H1 fun ys H2 => ∃ (ns : List Int) (k : Int), vs = ns.map V.int ∧ ys = [.int k] ∧ k ∈ ns ∧ H2 p = some (.frz { cls := .type "tuple", data := .seq its n } (.tup vs)) ∧ Q (.int (ns.idxOf k : Nat)) H2
theorem pe_tix {o e : Expr} {apos cpos : Pos} {to te : TE} (ho : PE X o to) (he : PE X e te) (hs : noStar e = true) (hbase : attributeBase o "index" X.env (eval o X.env) = eval o X.env) (hline : (apos.endLine == cpos.line) = true) :
    PE X (.Call (.Attribute o "index" apos) [e] [] cpos) (tTix to te) := by
  have hst : starEach [e] X.env = (false, eval e X.env) :: starEach [] X.env := star_of hs
  refine ⟨fun pins s σ H Q I h => ?_⟩
  refine wpAny_Call_method_late hbase (by rw [hst]; rfl) hline rfl (thn (ho.run pins s σ H _ I h) fun v s1 ⟨x, H1, I1, r1, p, its, n, vs, ex, hp, q1⟩ => ?_)
  subst ex
  cases r1
  obtain ⟨e1, _⟩ := I1.hok p _ hp
  refine ⟨"tuple", "tuple.index", PySem.F.plainAttrs_tuple, PySem.F.slot_tuple_index, PySem.F.type_tuple_index, ⟨_, e1, rfl⟩, fun a ea => (by cases ea; exact ⟨_, e1, rfl⟩), ?_⟩
  have hA := (pa_cons he pa_nil hst).run cpos pins s1 σ H1 _ I1 q1
  rw [hst] at hA ⊢
  refine Calls.callWith_builtin (by show (false || (backTo cpos (starEach [] X.env)).any (·.1)) = false; rfl) (Calls.evalArgs_plain ?_)
  refine thn hA fun us s2 q2 => ?_
  obtain ⟨ys, H2, I2, r2, ns, k, rfl, rfl, hk, hp2, q⟩ := q2
  exact mt_indexT pins s2 σ H2 (.ref p) [.int k] _ us Q I2 rfl r2 ⟨p, ns, k, rfl, rfl, .inl (.inr ⟨_, hp2⟩), hk, q⟩
end
section
variable {W : Wd} {XW : L2.WX} {b : Bool} {F F' F1 F2 H H' H1 H2 : Hp} {α α' α1 α2 : List Addr} {M M' M1 M2 : Mst} {ρ ρ' ρ1 : En} {σ σ' σ1 : L2.St} {d : D} {v : V} {X : Cx} {tg : Expr} {E : Ends} {Q : VK}
theorem m_ctup (hW : W.Good) (hK : X.K = W.K) {x : Str} {e : Expr} {p pos : Pos} {ta : En → Mst → R D} (hx : x = "tuple") (hg : Gl X x) (hm : X.mg x = none) (he : PE X e (tE W XW true ta)) (hs : noStar e = true) :
    PE X (.Call (.Name x p) [e] [] pos) (tE W XW false fun ρ M => (ta ρ M).bind fun x M => (match x with
      | .lst xs => if clM then .ok (.rw xs) M else .stuck
      | _ => .stuck)) := by
  subst hx
  refine PE.imp (pe_callTy call_tupleF hg hm boot_tuple (pa_cons he pa_nil (star_of hs)) (by decide) (by decide) (star_of hs) rfl) fun σ H Q ⟨F, α, ρ, M, c, s, h⟩ => ?_
  refine bindE c s h fun F1 α1 H1 M1 x v g1 c1 s1 r1 h1 => ?_
  cases x with
  | lst xs =>
    dsimp only at h1
    split at h1
    · rename_i hcl
      obtain ⟨p, vs, rfl, h2, h3, h4⟩ := r1.list c1
      refine ⟨p, vs, rfl, SqL.of h2, fun l its n hl => ?_⟩
      obtain ⟨c2, g2⟩ := c1.new W hW hl (o := .frz { cls := .type "tuple", data := .seq its n } (.tup vs)) trivial
      exact h1 _ _ _ _ g2 c2 (.inl ⟨l, vs, rfl, ⟨hcl, its, n, upd_same⟩, g2.reps h3, h4⟩)
    · exact h1.elim
  | _ => exact h1.elim
theorem RepB.dn (h : RepB W b F α H d v) : RepB W b F α H (dnD d) v := by
  cases d with
  | rw ds =>
    rcases h with ⟨a, vs, e, ⟨cl, its, n, h1⟩, h2, h3⟩ | ⟨_, ds', p, vs, e, _⟩
    · exact .inl ⟨a, vs, e, .inr ⟨cl, its, n, h1⟩, h2, h3⟩
    · cases e
  | _ => exact h
theorem m_dn {e : Expr} {ta : En → Mst → R D} (he : PE X e (tE W XW b ta)) : PE X e (tE W XW b fun ρ M => (ta ρ M).bind fun x M => .ok (dnD x) M) := PE.imp he fun σ H Q ⟨F, α, ρ, M, c, s, h⟩ => by
  refine ⟨F, α, ρ, M, c, s, ?_⟩
  dsimp only at h
  cases e : ta ρ M with
  | ok x M1 =>
    rw [e] at h
    exact fun F1 α1 H1 v g c1 r => h F1 α1 H1 v g c1 r.dn
  | exc n M1 =>
    rw [e] at h
    exact h
  | stuck =>
    rw [e] at h
    exact h
theorem m_tix {o e : Expr} {apos cpos : Pos} {ta tb : En → Mst → R D} (ho : PE X o (tE W XW true ta)) (he : PE X e (tE W XW true tb)) (hs : noStar e = true) (hbase : attributeBase o "index" X.env (eval o X.env) = eval o X.env) (hline : (apos.endLine == cpos.line) = true) :
    PE X (.Call (.Attribute o "index" apos) [e] [] cpos) (tE W XW false fun ρ M => (ta ρ M).bind fun x M => (match x with
      | .rw xs => (tb ρ M).bind fun y M => R.of (tixD xs y) M
      | _ => .stuck)) := PE.imp (pe_tix ho he hs hbase hline) fun σ H Q ⟨F, α, ρ, M, c, s, h⟩ => by
  refine bindE c s h fun F1 α1 H1 M1 x v g1 c1 s1 r1 h1 => ?_
  cases x with
  | rw xs =>
    dsimp only at h1
    rcases r1 with ⟨p, vs, rfl, ⟨cl, its, n, f1⟩, f2, f3⟩ | ⟨_, ds', p, vs, e, _⟩
    · refine ⟨p, its, n, vs, rfl, c1.sub _ _ f1, ?_⟩
      refine bindE (b' := true) c1 s1 h1 fun F2 α2 H2 M2 y u g2 c2 s2 r2 h2 => ?_
      obtain ⟨d, e, q⟩ := post_of h2
      unfold tixD at e
      split at e
      · rename_i ns k hi
        split at e
        · rename_i hk
          cases e
          have hv := (ints_reps hi f2).1
          subst hv
          cases r2.int
          exact ⟨ns, k, rfl, rfl, hk, c2.sub _ _ (g2.ff _ _ f1), q.int c2⟩
        · cases e
      · cases e
    · cases e
  | _ => exact h1.elim
/-! ### dicts -/
theorem atD_nil {κ : Type} [DecidableEq κ] (k : κ) : atD [] k = none := rfl
def RepO (W : Wd) (F : Hp) (α : List Addr) : Option D → Option V → Prop
  | some d, some v => Rep F α W.K d v
  | none, none => True
  | _, _ => False
section
variable {κ κ' : Type} [DecidableEq κ] [DecidableEq κ'] {φ : κ → κ'}
theorem at_rep (hφ : ∀ a b, φ a = φ b → a = b) (k : κ) : ∀ {ks : List (κ × D)} {kvs : List (κ' × V)}, kvs.map (·.1) = ks.map (fun p => φ p.1) → Reps F α W.K (ks.map (·.2)) (kvs.map (·.2)) → RepO W F α (atD ks k) (valV kvs (φ k))
  | [], kvs, e, r => by
    have : kvs = [] := by simpa using e
    subst this
    exact trivial
  | p :: ks, kvs, e, r => by
    cases kvs with
    | nil => simp at e
    | cons q kvs =>
      rw [List.map_cons, List.map_cons] at e
      injection e with e1 e2
      rw [List.map_cons, List.map_cons] at r
      obtain ⟨v, w, e3, r1, r2⟩ := r
      injection e3 with e3 e4
      subst e3 e4
      by_cases h : p.1 = k
      · have h' : q.1 = φ k := by rw [e1, h]
        rw [valV_pos h', show atD (p :: ks) k = some p.2 by simp [atD, List.find?_cons, h]]
        exact r1
      · have h' : ¬ q.1 = φ k := fun z => h (hφ _ _ (e1.symm.trans z))
        rw [valV_neg h', show atD (p :: ks) k = atD ks k by simp [atD, List.find?_cons, h]]
        exact at_rep hφ k e2 r2
theorem any_rep (hφ : ∀ a b, φ a = φ b → a = b) (k : κ) : ∀ {ks : List (κ × D)} {kvs : List (κ' × V)}, kvs.map (·.1) = ks.map (fun p => φ p.1) → (ks.any fun p => decide (p.1 = k)) = (kvs.any fun p => decide (p.1 = φ k))
  | [], kvs, e => by
    have : kvs = [] := by simpa using e
    subst this
    rfl
  | p :: ks, kvs, e => by
    cases kvs with
    | nil => simp at e
    | cons q kvs =>
      rw [List.map_cons, List.map_cons] at e
      injection e with e1 e2
      rw [List.any_cons, List.any_cons, any_rep hφ k e2]
      congr 1
      rw [decide_eq_decide, e1]
      exact ⟨fun z => by rw [z], fun z => hφ _ _ z⟩
theorem map_rep (hφ : ∀ a b, φ a = φ b → a = b) (k : κ) {d : D} {v : V} (hd : Rep F α W.K d v) : ∀ {ks : List (κ × D)} {kvs : List (κ' × V)}, kvs.map (·.1) = ks.map (fun p => φ p.1) → Reps F α W.K (ks.map (·.2)) (kvs.map (·.2)) →
    Reps F α W.K ((ks.map fun kv => if kv.1 = k then (kv.1, d) else kv).map (·.2)) ((kvs.map fun kv => if kv.1 = φ k then (kv.1, v) else kv).map (·.2))
  | [], kvs, e, r => by
    have : kvs = [] := by simpa using e
    subst this
    exact rfl
  | p :: ks, kvs, e, r => by
    cases kvs with
    | nil => simp at e
    | cons q kvs =>
      rw [List.map_cons, List.map_cons] at e
      injection e with e1 e2
      rw [List.map_cons, List.map_cons] at r
      obtain ⟨v', w, e3, r1, r2⟩ := r
      injection e3 with e3 e4
      subst e3 e4
      refine ⟨_, _, rfl, ?_, map_rep hφ k hd e2 r2⟩
      by_cases h : p.1 = k
      · have h' : q.1 = φ k := by rw [e1, h]
        dsimp only
        rw [if_pos h, if_pos h']
        exact hd
      · have h' : ¬ q.1 = φ k := fun z => h (hφ _ _ (e1.symm.trans z))
        dsimp only
        rw [if_neg h, if_neg h']
        exact r1
theorem put_rep (hφ : ∀ a b, φ a = φ b → a = b) (k : κ) {d : D} {v : V} (hd : Rep F α W.K d v) {ks : List (κ × D)} {kvs : List (κ' × V)} (e : kvs.map (·.1) = ks.map (fun p => φ p.1)) (r : Reps F α W.K (ks.map (·.2)) (kvs.map (·.2))) :
    (putK kvs (φ k) v).map (·.1) = (putD ks k d).map (fun p => φ p.1) ∧ Reps F α W.K ((putD ks k d).map (·.2)) ((putK kvs (φ k) v).map (·.2)) ∧ (putD ks k d).length ≤ ks.length + 1 := by
  unfold putK putD
  rw [any_rep hφ k e]
  by_cases h : (kvs.any fun p => decide (p.1 = φ k)) = true
  · rw [if_pos h, if_pos h]
    refine ⟨?_, map_rep hφ k hd e r, by rw [List.length_map]; omega⟩
    rw [List.map_map, List.map_map]
    have e1 : (fun kv : κ' × V => ((fun p => p.1) ∘ fun kv => if kv.1 = φ k then (kv.1, v) else kv) kv) = fun kv => kv.1 := by
      funext kv
      dsimp only [Function.comp]
      split <;> rfl
    have e2 : (fun kv : κ × D => ((fun p => φ p.1) ∘ fun kv => if kv.1 = k then (kv.1, d) else kv) kv) = fun kv => φ kv.1 := by
      funext kv
      dsimp only [Function.comp]
      split <;> rfl
    show kvs.map (fun kv => ((fun p => p.1) ∘ fun kv => if kv.1 = φ k then (kv.1, v) else kv) kv) = ks.map (fun kv => ((fun p => φ p.1) ∘ fun kv => if kv.1 = k then (kv.1, d) else kv) kv)
    rw [e1, e2]
    exact e
  · rw [if_neg h, if_neg h]
    refine ⟨by rw [List.map_append, List.map_append, e]; rfl, ?_, by rw [List.length_append]; exact Nat.le_refl _⟩
    rw [List.map_append, List.map_append]
    exact r.append (.one hd)
end
theorem inl_inj : ∀ a b : Int, (Sum.inl a : Key) = Sum.inl b → a = b := fun a b h => by
  injection h
theorem inls_inj : ∀ a b : List Int, (a.map Sum.inl : List Key) = b.map Sum.inl → a = b
  | [], [], _ => rfl
  | [], _ :: _, h => by cases h
  | _ :: _, [], h => by cases h
  | x :: xs, y :: ys, h => by
    rw [List.map_cons, List.map_cons] at h
    injection h with h1 h2
    injection h1 with h1
    rw [h1, inls_inj xs ys h2]
theorem kV_ints (ns : List Int) : ((ns.map Sum.inl : List Key)).map kV = ns.map V.int := by
  rw [List.map_map]
  rfl
/-- a key that is a tuple of ints -/
theorem key_tup {y : D} {w : V} {ns : List Int} (hcl : ¬ clM = true) (c : CM W F α M H) (r : RepB W true F α H y w) (e : keyT? y = some ns) : ∃ b, w = .ref b ∧ H b = some (.tup ((ns.map Sum.inl : List Key).map kV)) := by
  cases y with
  | tup xs =>
    replace e : ints? xs = some ns := e
    obtain ⟨p, vs, rfl, h1, _, h2, h3⟩ := r.tuple c
    have := (ints_reps e h2).1
    subst this
    rcases h1 with h1 | ⟨cl, _⟩
    · exact ⟨p, rfl, by rw [kV_ints]; exact c.sub _ _ h1⟩
    · exact absurd cl hcl
  | _ => cases e
theorem dic_view (c : CM W F α M H) (s : SL W F α H ρ σ) {i : Nat} (h : ¬ isDi ρ[i]? = false) : ∃ p, σ[i]? = some (some (.ref p)) ∧ IsD H p ∧ ∀ y w o, RepB W true F α H y w → slGet ρ[i]? y = some o → ∃ r, DGet H p w r ∧ RepO W F α o r := by
  cases e : ρ[i]? with
  | none =>
    rw [e] at h
    exact absurd rfl h
  | some sl =>
    have hs := s.at_ i sl e
    cases sl with
    | di ks =>
      obtain ⟨p, kvs, e1, h1, h2, h3, h4, h5, h6⟩ := hs
      refine ⟨p, e1, .inl ⟨kvs, .inl h1⟩, fun y w o r eo => ?_⟩
      cases y with
      | int j =>
        cases eo
        cases r.int
        exact ⟨_, .inl ⟨kvs, .inl j, .inl h1, rfl, rfl⟩, at_rep inl_inj j h2 h3⟩
      | _ => cases eo
    | dz ks =>
      obtain ⟨p, kvs, u, e1, h1, h2, h3, h4⟩ := hs
      have h1' := c.sub _ _ h1
      refine ⟨p, e1, .inl ⟨kvs, .inr ⟨u, h1'⟩⟩, fun y w o r eo => ?_⟩
      cases y with
      | int j =>
        cases eo
        cases r.int
        exact ⟨_, .inl ⟨kvs, .inl j, .inr ⟨u, h1'⟩, rfl, rfl⟩, at_rep inl_inj j h2 h3⟩
      | _ => cases eo
    | dt ks =>
      obtain ⟨p, kvs, e1, h1, h2, h3, h4, h5, h6⟩ := hs
      refine ⟨p, e1, .inr ⟨kvs, .inl h1⟩, fun y w o r eo => ?_⟩
      replace eo : (if clM = true then none else (keyT? y).map fun ns => atD ks ns) = some o := eo
      split at eo
      · cases eo
      · rename_i hcl
        rw [Option.map_eq_some_iff] at eo
        obtain ⟨ns, ek, rfl⟩ := eo
        obtain ⟨b, rfl, hb⟩ := key_tup hcl c r ek
        exact ⟨_, .inr ⟨kvs, ns.map Sum.inl, b, .inl h1, rfl, hb, rfl⟩, at_rep inls_inj ns h2 h3⟩
    | no =>
      rw [e] at h
      exact absurd rfl h
    | v _ =>
      rw [e] at h
      exact absurd rfl h
    | own _ =>
      rw [e] at h
      exact absurd rfl h
theorem m_dget (hu : X.A.units + 1 < cLine) {o k : Expr} {pos : Pos} {i : Nat} {tk : En → Mst → R D} (ho : PE X o (tVar i)) (hk : PE X k (tE W XW true tk)) (hs : NoSl k) :
    PE X (.Subscript o k pos) (tE W XW false fun ρ M => if isDi ρ[i]? = false then .stuck else (tk ρ M).bind fun y M => R.of ((slGet ρ[i]? y).bind id) M) := PE.imp (pe_dget hu ho hk hs) fun σ H Q ⟨F, α, ρ, M, c, s, h⟩ => by
  dsimp only at h
  split at h
  · exact h.elim
  · rename_i hd
    obtain ⟨p, e1, d1, _⟩ := dic_view c s hd
    refine ⟨.ref p, e1, ?_⟩
    refine bindE c s h fun F1 α1 H1 M1 y u g1 c1 s1 r1 h1 => ?_
    obtain ⟨d, e, q⟩ := post_of h1
    rw [Option.bind_eq_some_iff] at e
    obtain ⟨o, e2, e3⟩ := e
    replace e3 : o = some d := e3
    subst e3
    obtain ⟨p', e4, _, k2⟩ := dic_view c1 s1 hd
    rw [e1] at e4
    cases e4
    obtain ⟨r, g, rr⟩ := k2 y u _ r1 e2
    cases r with
    | none => exact rr.elim
    | some v => exact ⟨p, v, rfl, g, PQ.here c1 q (.inl rr)⟩
theorem m_dgetd (hu : X.A.units + 1 < cLine) {o k e : Expr} {apos cpos : Pos} {i : Nat} {tk te : En → Mst → R D} (ho : PE X o (tVar i)) (hk : PE X k (tE W XW true tk)) (he : PE X e (tE W XW false te)) (m : L2.M2 X o "get" apos k e cpos) :
    PE X (.Call (.Attribute o "get" apos) [k, e] [] cpos) (tE W XW false fun ρ M => if isDi ρ[i]? = false then .stuck else (tk ρ M).bind fun y M => (te ρ M).bind fun z M => R.of ((slGet ρ[i]? y).map fun o => o.getD z) M) := PE.imp (pe_dget2 hu ho hk he m) fun σ H Q ⟨F, α, ρ, M, c, s, h⟩ => by
  dsimp only at h
  split at h
  · exact h.elim
  · rename_i hd
    obtain ⟨p, e1, d1, _⟩ := dic_view c s hd
    refine ⟨.ref p, e1, p, rfl, d1, ?_⟩
    refine bindE c s h fun F1 α1 H1 M1 y u g1 c1 s1 r1 h1 => ?_
    refine bindE c1 s1 h1 fun F2 α2 H2 M2 z w g2 c2 s2 r2 h2 => ?_
    replace r1 := r1.grow g2
    obtain ⟨d, e, q⟩ := post_of h2
    rw [Option.map_eq_some_iff] at e
    obtain ⟨o, e2, rfl⟩ := e
    obtain ⟨p', e4, _, k2⟩ := dic_view c2 s2 hd
    rw [e1] at e4
    cases e4
    obtain ⟨r, g, rr⟩ := k2 y u _ r1 e2
    refine ⟨r, g, ?_⟩
    cases o with
    | none =>
      cases r with
      | none => exact PQ.here c2 q r2
      | some v => exact rr.elim
    | some d =>
      cases r with
      | none => exact rr.elim
      | some v => exact PQ.here c2 q (.inl rr)
theorem m2_of {o k e : Expr} {m : Str} {apos cpos : Pos} (h1 : noStar k = true) (h2 : noStar e = true) (hb : attributeBase o m X.env (eval o X.env) = eval o X.env) (hl : (apos.endLine == cpos.line) = true) : L2.M2 X o m apos k e cpos :=
  ⟨hb, by rw [star_of h1, star_of h2]; rfl, hl, by rw [star_of h1, star_of h2]; rfl⟩
/-- for k in d -/
theorem m_keys {e : Expr} {i : Nat} (he : PE X e (tVar i)) : PI X tg e (tI W XW b fun ρ M => (match ρ[i]? with
    | some (.dz kvs) => .ok (kvs.map fun p => .int p.1) M
    | _ => .stuck)) := PI.imp (pi_keys he) fun σ H R' ⟨F, α, ρ, M, c, s, h⟩ => by
  dsimp only at h
  split at h
  · rename_i ks er
    obtain ⟨p, kvs, u, e1, h1, h2, h3, h4⟩ := s.at_ i _ er
    refine ⟨.ref p, e1, p, u, rfl, .inl ⟨kvs, c.sub _ _ h1, ?_⟩⟩
    have hl : kvs.length = ks.length := by
      have := congrArg List.length h2
      simpa using this
    refine h F α H _ Grow.refl c ⟨by rw [List.length_map]; exact h4, fun _ => False, fun i H2 x H3 => H3 = H2 ∧ ∃ k v, kvs[i]? = some (k, v) ∧ x = kV k, fun _ _ z => z, fun _ z => z.elim, ⟨?_, ?_⟩⟩
    · rw [List.length_map, ← hl]
      exact walk_keys.mono (fun H2 h => h.sub _ _ h1) fun _ _ _ _ _ _ y => y
    · rintro j H2 x H3 O F2 α2 M2 g _ c2 hj ⟨rfl, k, v, ek, rfl⟩
      have e5 : (kvs.map (·.1))[j]? = some k := by rw [List.getElem?_map, ek]; rfl
      rw [h2, List.getElem?_map, Option.map_eq_some_iff] at e5
      obtain ⟨q, e6, rfl⟩ := e5
      exact ⟨F2, .int q.1, by rw [List.getElem?_map, e6]; rfl, c2, Grow.refl, rfl⟩
  · exact h.elim
/-! statements -/
theorem SL.setMine {i : Nat} {sl : Slot} {p : Addr} (h : SL W F α H ρ σ) (o : SlR W F α H sl (some (some (.ref p)))) (n : ∀ j, ¬ OwnAt σ ρ j p) : SL W F α H (ρ.set i sl) (σ.set i (some (.ref p))) where
  len := by simpa using h.len
  at_ := fun j s e => by
    by_cases hj : i = j
    · subst hj
      by_cases hl : i < ρ.length
      · rw [List.getElem?_set_self hl] at e
        cases e
        rw [List.getElem?_set_self (h.len ▸ hl)]
        exact o
      · rw [List.getElem?_eq_none (by simpa using hl)] at e
        cases e
    · rw [List.getElem?_set_ne hj] at e ⊢
      exact h.at_ j s e
  dis := fun j k q h1 h2 => by
    have key : ∀ j, OwnAt (σ.set i (some (.ref p))) (ρ.set i sl) j q → (j = i ∧ q = p) ∨ (j ≠ i ∧ OwnAt σ ρ j q) := fun j ⟨e1, t, e2, m⟩ => by
      by_cases hj : i = j
      · subst hj
        by_cases hl : i < σ.length
        · rw [List.getElem?_set_self hl] at e1
          cases e1
          exact .inl ⟨rfl, rfl⟩
        · rw [List.getElem?_eq_none (by simpa using hl)] at e1
          cases e1
      · rw [List.getElem?_set_ne hj] at e1 e2
        exact .inr ⟨fun z => hj z.symm, e1, t, e2, m⟩
    rcases key j h1 with ⟨rfl, rfl⟩ | ⟨hj, k1⟩ <;> rcases key k h2 with ⟨rfl, z⟩ | ⟨hk, k2⟩
    · rfl
    · exact absurd k2 (n k)
    · subst z
      exact absurd k1 (n j)
    · exact h.dis j k q k1 k2
/-- a new thing of one's own gets a name -/
theorem mine_after {i : Nat} {sl : Slot} {p : Addr} (s : SL W F α H ρ σ) (g : Grow O0 F α H F1 α1 H1) (c : CM W F1 α1 M1 H1) (o : SlR W F1 α1 H1 sl (some (some (.ref p)))) (f : Fre H p) : AfterS W F α H ρ σ F1 α1 H1 M1 (ρ.set i sl) (σ.set i (some (.ref p))) := by
  refine ⟨⟨g.weak fun _ z => z.elim, c⟩, (s.grow g).setMine o (s.fre_not f), fun q h => ?_⟩
  rcases h.set with h | ⟨_, h⟩
  · exact .inl h
  · cases h
    exact .inr f
theorem CM.fresh_no (c : CM W F α M H) {p : Addr} (hp : H p = none) : F p = none ∧ p ∉ α ∧ Fre H p := by
  refine ⟨?_, fun z => ?_, fun o z => by rw [hp] at z; cases z⟩
  · cases q : F p with
    | none => rfl
    | some u =>
      have := c.sub p u q
      rw [hp] at this
      cases this
  · obtain ⟨n, o, _, _, q, _⟩ := c.at_ z
    obtain ⟨u, q, _⟩ := q.there
    rw [hp] at q
    cases q
theorem s_dnewK (hW : W.Good) {e tg : Expr} {pos : Pos} {i : Nat} (hp : PS X (.Assign [tg] e pos) (tAsg tDNewK (gName i))) : PS X (.Assign [tg] e pos) (tS W XW fun ρ M => .nx (ρ.set i (.di [])) M) := PS.imp hp fun E σ H ⟨F, α, ρ, M, c, s, h⟩ p hp => by
  obtain ⟨f1, f2, f3⟩ := c.fresh_no hp
  obtain ⟨c1, g1⟩ := c.alloc W hW hp (o := .dK []) fun z => z
  exact h F α _ _ (mine_after s g1 c1 ⟨p, [], rfl, upd_same, rfl, rfl, Nat.zero_le _, f1, f2⟩ f3)
theorem s_dnewT (hW : W.Good) {e tg : Expr} {pos : Pos} {i : Nat} (hp : PS X (.Assign [tg] e pos) (tAsg tDNewT (gName i))) : PS X (.Assign [tg] e pos) (tS W XW fun ρ M => .nx (ρ.set i (.dt [])) M) := PS.imp hp fun E σ H ⟨F, α, ρ, M, c, s, h⟩ p hp => by
  obtain ⟨f1, f2, f3⟩ := c.fresh_no hp
  obtain ⟨c1, g1⟩ := c.alloc W hW hp (o := .dT []) fun z => z
  exact h F α _ _ (mine_after s g1 c1 ⟨p, [], rfl, upd_same, rfl, rfl, Nat.zero_le _, f1, f2⟩ f3)
/-- what is one's own is changed in its place -/
theorem mine_put (hW : W.Good) {i : Nat} {sl sl' : Slot} {p : Addr} {o u : HO} (c : CM W F α M H) (s : SL W F α H ρ σ) (e : ρ[i]? = some sl) (hm : sl.mine = true) (e1 : σ[i]? = some (some (.ref p))) (hp : H p = some u) (hu : ¬ isTbl u) (hx : ∀ φ, u ≠ .ext φ) (hF : F p = none) (hα : p ∉ α) (ho : ¬ isTbl o) (q : SlR W F α (upd H p o) sl' (some (some (.ref p)))) :
    AfterS W F α H ρ σ F α (upd H p o) M (ρ.set i sl') σ := by
  obtain ⟨c1, g1⟩ := c.write W hW hp hu hx hF hα ho
  have hi : i < ρ.length := (List.getElem?_eq_some_iff.mp e).1
  have hw : OwnAt σ ρ i p := ⟨e1, _, e, hm⟩
  have key : ∀ j q, OwnAt σ (ρ.set i sl') j q → OwnAt σ ρ j q := fun j q ⟨f1, t, f2, m⟩ => by
    by_cases hj : i = j
    · subst hj
      exact ⟨f1, _, e, hm⟩
    · rw [List.getElem?_set_ne hj] at f2
      exact ⟨f1, t, f2, m⟩
  refine ⟨⟨g1.weak fun a z => by subst z; exact ⟨i, hw⟩, c1⟩, ⟨by simpa using s.len, fun j s' ej => ?_, fun j k q hj hk => s.dis j k q (key j q hj) (key k q hk)⟩, fun q ⟨j, hq⟩ => .inl ⟨j, key j q hq⟩⟩
  by_cases hj : i = j
  · subst hj
    rw [List.getElem?_set_self hi] at ej
    cases ej
    rw [e1]
    exact q
  · rw [List.getElem?_set_ne hj] at ej
    refine (s.at_ j _ ej).grow g1 fun q' eq m z => ?_
    have z : q' = p := z
    rw [z] at eq
    exact hj (s.dis i j p hw ⟨eq, _, ej, m⟩)
theorem dic_put (hW : W.Good) {i : Nat} {y d : D} {w v : V} {sl' : Slot} {p : Addr} (c : CM W F α M H) (s : SL W F α H ρ σ) (e1 : σ[i]? = some (some (.ref p))) (e : slPut ρ[i]? y d = some sl') (ry : RepB W true F α H y w) (rv : Rep F α W.K d v) : ∃ H', DPut H p w v H' ∧ AfterS W F α H ρ σ F α H' M (ρ.set i sl') σ := by
  cases er : ρ[i]? with
  | none =>
    rw [er] at e
    cases e
  | some sl =>
    rw [er] at e
    have hs := s.at_ i sl er
    rw [e1] at hs
    cases sl with
    | di ks =>
      obtain ⟨p', kvs, e2, h1, h2, h3, h4, h5, h6⟩ := hs
      cases e2
      cases y with
      | int j =>
        replace e : (if ks.length < line then some (Slot.di (putD ks j d)) else none) = some sl' := e
        split at e
        · rename_i hl
          cases e
          cases ry.int
          have hl' : kvs.length < sizeLine := by
            have := congrArg List.length h2
            rw [List.length_map, List.length_map] at this
            rw [this]
            exact line_eq ▸ hl
          obtain ⟨k1, k2, k3⟩ := put_rep inl_inj j rv h2 h3
          refine ⟨_, .inl ⟨kvs, .inl j, h1, rfl, hl', rfl⟩, mine_put hW c s er rfl e1 h1 (fun z => z) (fun _ z => by cases z) h5 h6 (fun z => z) ⟨p, _, rfl, upd_same, k1, k2, ?_, h5, h6⟩⟩
          have hl2 : ks.length < sizeLine := line_eq ▸ hl
          omega
        · cases e
      | _ => cases e
    | dt ks =>
      obtain ⟨p', kvs, e2, h1, h2, h3, h4, h5, h6⟩ := hs
      cases e2
      replace e : (if clM = true then none else (keyT? y).bind fun ns => if ks.length < line then some (Slot.dt (putD ks ns d)) else none) = some sl' := e
      split at e
      · cases e
      · rename_i hcl
        rw [Option.bind_eq_some_iff] at e
        obtain ⟨ns, ek, e⟩ := e
        split at e
        · rename_i hl
          cases e
          obtain ⟨b, rfl, hb⟩ := key_tup hcl c ry ek
          have hl' : kvs.length < sizeLine := by
            have := congrArg List.length h2
            rw [List.length_map, List.length_map] at this
            rw [this]
            exact line_eq ▸ hl
          obtain ⟨k1, k2, k3⟩ := put_rep inls_inj ns rv h2 h3
          refine ⟨_, .inr ⟨kvs, ns.map Sum.inl, b, h1, rfl, hb, hl', rfl⟩, mine_put hW c s er rfl e1 h1 (fun z => z) (fun _ z => by cases z) h5 h6 (fun z => z) ⟨p, _, rfl, upd_same, k1, k2, ?_, h5, h6⟩⟩
          have hl2 : ks.length < sizeLine := line_eq ▸ hl
          omega
        · cases e
    | no => cases e
    | v _ => cases e
    | own _ => cases e
    | dz _ => cases e
theorem s_dset (hW : W.Good) (hu : X.A.units + 1 < cLine) {o k e : Expr} {pos spos : Pos} {i : Nat} {tk ta : En → Mst → R D} (ho : PE X o (tVar i)) (hk : PE X k (tE W XW true tk)) (he : PE X e (tE W XW false ta)) (hn : noComp e = true) :
    PS X (.Assign [.Subscript o k pos] e spos) (tS W XW fun ρ M => (ta ρ M).toS fun d M => if isDi ρ[i]? = false then .stuck else (tk ρ M).toS fun x M => (match slPut ρ[i]? x d with
      | some s => .nx (ρ.set i s) M
      | none => .stuck)) := by
  refine PS.imp (ps_dput hu ho hk he (sw_of hn)) fun E σ H ⟨F, α, ρ, M, c, s, h⟩ => ?_
  refine bindS c s h fun F1 α1 H1 M1 x v g1 c1 s1 r1 h1 => ?_
  split at h1
  · exact h1.elim
  · rename_i hd
    obtain ⟨p, e1, _, _⟩ := dic_view c1 s1 hd
    refine ⟨.ref p, e1, ?_⟩
    refine bindS c1 s1 h1 fun F2 α2 H2 M2 y u g2 c2 s2 r2 h2 => ?_
    replace r1 := (r1.grow g2).strict
    split at h2
    · rename_i sl' ep
      obtain ⟨H', q1, q2⟩ := dic_put hW c2 s2 e1 ep r2 r1
      exact ⟨p, H', rfl, q1, h2 _ _ _ _ q2⟩
    · exact h2.elim
/-! a dict that is no more changed -/
def tFrz (t : TS) : TS := fun D σ H => t { D with nx := fun σ' H' => ∃ d u, H' d = some u ∧ Mut (some u) ∧ ∀ od, D.nx σ' (upd H' d (.frz od u)) } σ H
theorem ps_frz {st : Stmt} {t : TS} (h : PS X st t) : PS X st (tFrz t) := by
  refine ⟨fun pins s σ H D I hw => ?_⟩
  refine thn (h.run pins s σ _ _ I hw) fun f s1 q => ?_
  cases f with
  | next =>
    obtain ⟨σ', H', I2, d, u, e, mu, q⟩ := q
    obtain ⟨od, I3⟩ := I2.lock e mu
    exact ⟨σ', _, I3, q od⟩
  | brk => exact q
  | cont => exact q
  | ret v => exact q
theorem CM.lockD (hW : W.Good) (c : CM W F α M H) {p : Addr} {kvs : List (Key × V)} {od : Obj} (hp : H p = some (.dK kvs)) (hF : F p = none) (hα : p ∉ α) : CM W (upd F p (.frz od (.dK kvs))) α M (upd H p (.frz od (.dK kvs))) ∧ Grow (fun a => a = p) F α H (upd F p (.frz od (.dK kvs))) α (upd H p (.frz od (.dK kvs))) := by
  obtain ⟨c1, g1⟩ := c.write W hW hp (fun z => z) (fun _ z => by cases z) hF hα (o := .frz od (.dK kvs)) (fun z => z)
  obtain ⟨c2, g2⟩ := c1.freeze W (o := .frz od (.dK kvs)) upd_same hF hα trivial
  exact ⟨c2, g1.trans g2 fun _ h => .inl h⟩
theorem SL.setNo {i : Nat} (h : SL W F α H ρ σ) : SL W F α H (ρ.set i .no) σ where
  len := by simpa using h.len
  at_ := fun j s e => by
    by_cases hj : i = j
    · subst hj
      by_cases hl : i < ρ.length
      · rw [List.getElem?_set_self hl] at e
        cases e
        trivial
      · rw [List.getElem?_eq_none (by simpa using hl)] at e
        cases e
    · rw [List.getElem?_set_ne hj] at e
      exact h.at_ j s e
  dis := fun j k p h1 h2 => by
    have key : ∀ j, OwnAt σ (ρ.set i .no) j p → OwnAt σ ρ j p := fun j ⟨e1, t, e2, m⟩ => by
      by_cases hj : i = j
      · subst hj
        by_cases hl : i < ρ.length
        · rw [List.getElem?_set_self hl] at e2
          cases e2
          cases m
        · rw [List.getElem?_eq_none (by simpa using hl)] at e2
          cases e2
      · rw [List.getElem?_set_ne hj] at e2
        exact ⟨e1, t, e2, m⟩
    exact h.dis j k p (key j h1) (key k h2)
theorem own_setNo {i j : Nat} {p : Addr} (h : OwnAt σ (ρ.set i .no) j p) : j ≠ i ∧ OwnAt σ ρ j p := by
  obtain ⟨e1, t, e2, m⟩ := h
  by_cases hj : i = j
  · subst hj
    by_cases hl : i < ρ.length
    · rw [List.getElem?_set_self hl] at e2
      cases e2
      cases m
    · rw [List.getElem?_eq_none (by simpa using hl)] at e2
      cases e2
  · rw [List.getElem?_set_ne hj] at e2
    exact ⟨fun z => hj z.symm, e1, t, e2, m⟩
/-- a name gets what is not one's own -/
theorem SL.setNm {i : Nat} {v : V} {sl : Slot} (h : SL W F α H ρ σ) (hm : sl.mine = false) (r : SlR W F α H sl (some (some v))) : SL W F α H (ρ.set i sl) (σ.set i (some v)) ∧ ∀ p, OwnA (σ.set i (some v)) (ρ.set i sl) p → OwnA σ ρ p := by
  have key : ∀ p j, OwnAt (σ.set i (some v)) (ρ.set i sl) j p → OwnAt σ ρ j p := fun p j ⟨e1, t, e2, m⟩ => by
    by_cases hj : i = j
    · subst hj
      by_cases hl : i < ρ.length
      · rw [List.getElem?_set_self hl] at e2
        cases e2
        rw [hm] at m
        cases m
      · rw [List.getElem?_eq_none (by simpa using hl)] at e2
        cases e2
    · rw [List.getElem?_set_ne hj] at e1 e2
      exact ⟨e1, t, e2, m⟩
  refine ⟨⟨by simpa using h.len, fun j s e => ?_, fun j k p h1 h2 => h.dis j k p (key p j h1) (key p k h2)⟩, fun p ⟨j, hj⟩ => ⟨j, key p j hj⟩⟩
  by_cases hj : i = j
  · subst hj
    by_cases hl : i < ρ.length
    · rw [List.getElem?_set_self hl] at e
      cases e
      rw [List.getElem?_set_self (h.len ▸ hl)]
      exact r
    · rw [List.getElem?_eq_none (by simpa using hl)] at e
      cases e
  · rw [List.getElem?_set_ne hj] at e ⊢
    exact h.at_ j s e
/-- a dict of one's own is frozen and gets another name -/
theorem s_mv (hW : W.Good) {e tg : Expr} {pos : Pos} {i j : Nat} (hp : PS X (.Assign [tg] e pos) (tAsg (tVar j) (gName i))) : PS X (.Assign [tg] e pos) (tS W XW fun ρ M => (match ρ[j]? with
    | some (.di kvs) => .nx ((ρ.set j .no).set i (.dz kvs)) M
    | _ => .stuck)) := PS.imp (ps_frz hp) fun E σ H ⟨F, α, ρ, M, c, s, h⟩ => by
  dsimp only at h
  split at h
  · rename_i ks er
    obtain ⟨p, kvs, e1, h1, h2, h3, h4, h5, h6⟩ := s.at_ j _ er
    refine ⟨.ref p, e1, p, .dK kvs, h1, trivial, fun od => ?_⟩
    obtain ⟨c1, g1⟩ := c.lockD hW (od := od) h1 h5 h6
    have hw : OwnAt σ ρ j p := ⟨e1, _, er, rfl⟩
    have s0 := s.setNo (i := j)
    have s1 : SL W (upd F p (.frz od (.dK kvs))) α (upd H p (.frz od (.dK kvs))) (ρ.set j .no) σ := ⟨s0.len, fun k sl ek => (s0.at_ k sl ek).grow g1 fun q eq m z => by
      subst z
      obtain ⟨n1, n2⟩ := own_setNo (show OwnAt σ (ρ.set j .no) k q from ⟨eq, _, ek, m⟩)
      exact n1 (s.dis k j q n2 hw), s0.dis⟩
    obtain ⟨s2, o2⟩ := s1.setNm (i := i) (v := .ref p) (sl := .dz ks) rfl ⟨p, kvs, od, rfl, upd_same, h2, g1.reps h3, h4⟩
    refine h _ _ _ _ ⟨⟨g1.weak fun a z => by subst z; exact ⟨j, hw⟩, c1⟩, s2, fun q hq => ?_⟩
    obtain ⟨k, hk⟩ := o2 q hq
    exact .inl ⟨k, (own_setNo hk).2⟩
  · exact h.elim
/-- name = {k: e} -/
theorem s_dsg (hW : W.Good) {e tg : Expr} {pos : Pos} {i : Nat} {tk te : En → Mst → R D} (hp : PS X (.Assign [tg] e pos) (tAsg (tDisp [(tE W XW true tk, tE W XW false te)]) (gName i))) : PS X (.Assign [tg] e pos) (tS W XW fun ρ M => (tk ρ M).toS fun x M => (te ρ M).toS fun d M => sgS ρ i x d M) := PS.imp (ps_frz hp) fun E σ H ⟨F, α, ρ, M, c, s, h⟩ p hp => by
  obtain ⟨f1, f2, f3⟩ := c.fresh_no hp
  obtain ⟨c1, g1⟩ := c.alloc W hW hp (o := .dK []) fun z => z
  have keep : ∀ {F' α' H' F2 α2 H2}, Grow O0 F' α' H' F2 α2 H2 → (H' p = some (.dK []) ∧ F' p = none ∧ p ∉ α') → (H2 p = some (.dK []) ∧ F2 p = none ∧ p ∉ α2) := fun {F' α' H' F2 α2 H2} g ⟨q1, q2, q3⟩ => by
    have nf : ¬ Fre H' p := fun f => f _ q1
    refine ⟨g.kp p _ q1 q3 (fun z => z) (fun z => z), ?_, fun z => (g.na p z).elim q3 nf⟩
    cases q : F2 p with
    | none => rfl
    | some x =>
      rcases g.nf p x q with z | z | z
      · rw [q2] at z
        cases z
      · exact absurd z nf
      · exact z.elim
  have k0 : (upd H p (.dK []) p = some (.dK []) ∧ F p = none ∧ p ∉ α) := ⟨upd_same, f1, f2⟩
  have px : ∀ {n M'}, postS W XW F α H ρ σ E (.exc n M') → ∀ {F' α' H'}, Grow O0 F α H F' α' H' → PX W XW F' α' σ H' n M' := by
    intro n M' h F' α' H' g F2 α2 H2 g2 c2
    exact exc_of h F2 α2 H2 (g.trans0 g2) c2
  refine ⟨F, α, ρ, M, c1, s.grow g1, ?_⟩
  dsimp only at h
  cases ek : tk ρ M with
  | exc n M1 =>
    rw [ek] at h
    exact px h g1
  | stuck =>
    rw [ek] at h
    exact h
  | ok x M1 =>
    rw [ek] at h
    intro F1 α1 H1 v g2 c2 r2
    replace h : postS W XW F α H ρ σ E ((te ρ M1).toS fun d M => sgS ρ i x d M) := h
    refine ⟨F1, α1, ρ, M1, c2, (s.grow g1).grow g2, ?_⟩
    cases ee : te ρ M1 with
    | exc n M2 =>
      rw [ee] at h
      exact px h (g1.trans0 g2)
    | stuck =>
      rw [ee] at h
      exact h
    | ok d M2 =>
      rw [ee] at h
      intro F2 α2 H2 u g3 c3 r3
      replace h : postS W XW F α H ρ σ E (sgS ρ i x d M2) := h
      obtain ⟨q1, q2, q3⟩ := keep g3 (keep g2 k0)
      refine ⟨q1, ?_⟩
      cases x with
      | int j =>
        cases r2.int
        refine ⟨[(.inl j, u)], rfl, by show 1 ≤ 15; decide, p, .dK [(.inl j, u)], upd_same, trivial, fun od => ?_⟩
        obtain ⟨c4, g4⟩ := c3.write W hW q1 (fun z => z) (fun _ z => by cases z) q2 q3 (o := .dK [(.inl j, u)]) (fun z => z)
        obtain ⟨c5, g5⟩ := c4.lockD hW (od := od) upd_same q2 q3
        have g6 := g4.trans g5 fun _ h => .inl h
        have s3 := ((s.grow g1).grow g2).grow g3
        have no : ∀ k, ¬ OwnAt σ ρ k p := s.fre_not f3
        have s6 := fun k sl (ek : ρ[k]? = some sl) => (s3.at_ k sl ek).grow g6 fun q eq m z => by
          subst z
          exact no k ⟨eq, _, ek, m⟩
        obtain ⟨s7, o7⟩ := SL.setNm (i := i) (v := .ref p) (sl := .dz [(j, d)]) ⟨s3.len, s6, s3.dis⟩ rfl ⟨p, [(.inl j, u)], od, rfl, upd_same, rfl, .one (g6.rep r3.strict), by show 1 ≤ sizeLine; decide⟩
        exact h _ _ _ _ ⟨⟨((g1.trans0 (g2.trans0 g3)).trans g6 fun a z => by subst z; exact .inr f3).weak fun _ z => z.elim, c5⟩, s7, fun q hq => .inl (o7 q hq)⟩
      | _ => exact h.elim
/-- a, b = e, {} -/
theorem s_pard1 (hW : W.Good) {st : Stmt} {i j : Nat} {te : En → Mst → R D} (hp : PS X st (tPar i j (tCons (tE W XW false te) (tCons tDNewT tNil)))) : PS X st (tS W XW fun ρ M => (te ρ M).toS fun d M => .nx ((ρ.set i (.v d)).set j (.dt [])) M) := PS.imp hp fun E σ H ⟨F, α, ρ, M, c, s, h⟩ => by
  refine bindS c s h fun F1 α1 H1 M1 x v g1 c1 s1 r1 h1 => ?_
  intro p hp
  obtain ⟨f1, f2, f3⟩ := c1.fresh_no hp
  obtain ⟨c2, g2⟩ := c1.alloc W hW hp (o := .dT []) fun z => z
  have a1 : AfterS W F1 α1 H1 ρ σ F1 α1 H1 M1 (ρ.set i (.v x)) (σ.set i (some v)) := ⟨⟨Grow.refl, c1⟩, s1.setV r1.strict, fun p hp => .inl (own_setV hp)⟩
  exact ⟨v, .ref p, rfl, h1 _ _ _ _ (a1.thenS (mine_after a1.s g2 c2 ⟨p, [], rfl, upd_same, rfl, rfl, Nat.zero_le _, f1, f2⟩ f3))⟩
/-- b, a = {}, e -/
theorem s_pard2 (hW : W.Good) {st : Stmt} {i j : Nat} {te : En → Mst → R D} (hij : i ≠ j) (hp : PS X st (tPar j i (tCons tDNewT (tCons (tE W XW false te) tNil)))) : PS X st (tS W XW fun ρ M => (te ρ M).toS fun d M => .nx ((ρ.set i (.v d)).set j (.dt [])) M) := PS.imp hp fun E σ H ⟨F, α, ρ, M, c, s, h⟩ p hp => by
  obtain ⟨f1, f2, f3⟩ := c.fresh_no hp
  obtain ⟨c1, g1⟩ := c.alloc W hW hp (o := .dT []) fun z => z
  have px : ∀ {n M'}, postS W XW F α H ρ σ E (.exc n M') → ∀ {F' α' H'}, Grow O0 F α H F' α' H' → PX W XW F' α' σ H' n M' := by
    intro n M' h F' α' H' g F2 α2 H2 g2 c2
    exact exc_of h F2 α2 H2 (g.trans0 g2) c2
  refine ⟨F, α, ρ, M, c1, s.grow g1, ?_⟩
  dsimp only at h
  cases ek : te ρ M with
  | exc n M1 =>
    rw [ek] at h
    exact px h g1
  | stuck =>
    rw [ek] at h
    exact h
  | ok x M1 =>
    rw [ek] at h
    intro F1 α1 H1 v g2 c2 r2
    have nf : ¬ Fre (upd H p (.dT [])) p := fun f => f _ upd_same
    have q1 : H1 p = some (.dT []) := g2.kp p _ upd_same f2 (fun z => z) (fun z => z)
    have q3 : p ∉ α1 := fun z => (g2.na p z).elim f2 nf
    have q2 : F1 p = none := by
      cases q : F1 p with
      | none => rfl
      | some x =>
        rcases g2.nf p x q with z | z | z
        · rw [f1] at z
          cases z
        · exact absurd z nf
        · exact z.elim
    have s2 := ((s.grow g1).grow g2).setMine (i := j) (sl := .dt []) (p := p) ⟨p, [], rfl, q1, rfl, rfl, Nat.zero_le _, q2, q3⟩ (s.fre_not f3)
    have s3 := s2.setV (i := i) r2.strict
    refine ⟨.ref p, v, rfl, ?_⟩
    replace h : postS W XW F α H ρ σ E (.nx ((ρ.set i (.v x)).set j (.dt [])) M1) := h
    rw [List.set_comm _ _ hij] at h
    refine h F1 α1 H1 _ ⟨⟨(g1.trans0 g2).weak fun _ z => z.elim, c2⟩, s3, fun q hq => ?_⟩
    rcases (own_setV hq).set with h | ⟨_, h⟩
    · exact .inl h
    · cases h
      exact .inr f3
end
end Mi
end
section
set_option Elab.async false
set_option autoImplicit false
set_option linter.all false
set_option maxRecDepth 100000
set_option maxHeartbeats 4000000
/-! x[::-1] of a list, a tuple -/
namespace Mi
open PySem PySem.Spec PyProof.Rows L2 HT
section
variable {prog : Program} {w : World} {A : Around} {E : Value → Shared → Prop} {s : Shared}
theorem sliceApplied_rev {sl : Addr} {vs : Value} {n : Nat} {Q : Int × Int × Nat → Shared → Prop} (hs : s.heap.IsSliceOf sl .none .none vs) (ps : IsPart vs (some (-1)))
    (h : Q ((n : Int) - 1, -1, n) s) : wpAny (model prog w) A (Builtin.Slice.sliceApplied (.ref sl) (pure (n : Int))) Q E s := by
  obtain ⟨os, hos, hcs, hds⟩ := id hs
  unfold Builtin.Slice.sliceApplied Builtin.Slice.sliceFields
  refine wpAny_bind (wpAny_bind (wpAny_field hos hds (x := .none) rfl (wpAny_bind (wpAny_field hos hds (x := .none) rfl (wpAny_bind (wpAny_field hos hds (x := vs) rfl (wpAny_pure ?_)))))))
  refine wpAny_bind (slicePart_ ps ?_)
  show wpAny _ _ (if ((-1 : Int) == 0) = true then _ else _) _ _ s
  rw [if_neg (by decide)]
  refine wpAny_bind (slicePart_none (wpAny_bind (slicePart_none (wpAny_bind (wpAny_pure ?_)))))
  show wpAny _ _ (pure ((n : Int) - 1, (-1 : Int), Builtin.Slice.slicePlaces ((n : Int) - 1) (-1) (-1))) _ _ s
  have e : Builtin.Slice.slicePlaces ((n : Int) - 1) (-1) (-1) = n := by
    unfold Builtin.Slice.slicePlaces
    rw [if_neg (by decide)]
    by_cases q : (n : Int) - 1 > -1
    · rw [if_pos q]
      show (((n : Int) - 1 - -1 - 1) / 1 + 1).toNat = n
      rw [Int.ediv_one]
      omega
    · rw [if_neg q]
      show (0 : Int).toNat = n
      omega
  rw [e]
  exact wpAny_pure h
theorem pick_rev (xs : Array Value) : ((List.range xs.size).filterMap fun (m : Nat) => xs[(((xs.size : Int) - 1) + (m : Int) * (-1)).toNat]?).toArray = xs.toList.reverse.toArray := by
  congr 1
  have e : ∀ m ∈ List.range xs.size, xs[(((xs.size : Int) - 1) + (m : Int) * (-1)).toNat]? = some (xs.getD (xs.size - 1 - m) .none) := fun m hm => by
    have hm := List.mem_range.mp hm
    have : (((xs.size : Int) - 1) + (m : Int) * (-1)).toNat = xs.size - 1 - m := by omega
    rw [this, Array.getElem?_eq_getElem (by omega)]
    simp [Array.getD, show xs.size - 1 - m < xs.size by omega]
  have key : ∀ (f : Nat → Option Value) (g : Nat → Value) (l : List Nat), (∀ m ∈ l, f m = some (g m)) → l.filterMap f = l.map g := by
    intro f g l
    induction l with
    | nil => intro _; rfl
    | cons m l ih =>
      intro h
      rw [List.filterMap_cons, h m (by simp), List.map_cons, ih fun z hz => h z (by simp [hz])]
  rw [key _ (fun m => xs.getD (xs.size - 1 - m) .none) _ e]
  refine List.ext_getElem (by simp) fun i h1 h2 => ?_
  have hi : i < xs.size := by simpa using h1
  simp [Array.getD, show xs.size - 1 - i < xs.size by omega]
theorem getItem_tuple_rev {t sl : Addr} {items : Array Value} {vs : Value} {Q : Value → Shared → Prop} (ht : IsTup s.heap t items) (hs : s.heap.IsSliceOf sl .none .none vs) (ps : IsPart vs (some (-1)))
    (h : Q (.ref s.heap.objs.size) { s with heap := s.heap.push { cls := .type "tuple", data := .seq items.toList.reverse.toArray } })
    (hsz : items.size ≤ sizeLine) : wpAny (model prog w) A (getItem (.ref t) (.ref sl)) Q E s := by
  have htake : sizeOk (.seq items.toList.reverse.toArray) := by
    show items.toList.reverse.toArray.size ≤ sizeLine
    rw [List.size_toArray, List.length_reverse, Array.length_toList]
    exact hsz
  obtain ⟨os, hos, hcs, hds⟩ := id hs
  have hTs : s.TypeIs (.ref sl) "slice" := ⟨os, hos, hcs⟩
  unfold getItem
  try with_reducible refine wpAny_holding ?_
  first | refine wpAny_bind (wpAny_pure ?_) | skip
  refine wpAny_bind (wpAny_sequenceKey ht.typeIs (by decide) ?_)
  refine wpAny_bind (wpAny_callSpecial?_slot (name := Str.ofString "__getitem__") ht.typeIs PyProof.Rows.slot_tuple_getitem
    (wpAny_call_entry PyProof.Rows.slot_tuple_getitem ht.typeIs entry_tuple_getitem ?_ (args_tuple_getitem _ _)))
  show wpAny _ _ (Builtin.Tuple.tupleItemsOf (.ref t) >>= _) _ _ s
  refine wpAny_bind (tupleItemsOf_ ht ?_)
  refine wpAny_bind (wpAny_typeOf hTs ?_)
  rw [if_pos (by decide)]
  refine wpAny_bind (sliceApplied_rev hs ps ?_)
  have hno : ¬ ((((items.size : Int) - 1) == 0 && (-1 : Int) == 1 && items.size == items.size) = true) := by
    intro q
    rw [Bool.and_eq_true, Bool.and_eq_true] at q
    exact absurd q.1.2 (by decide)
  show wpAny _ _ (if (((items.size : Int) - 1) == 0 && (-1 : Int) == 1 && items.size == items.size) = true then _ else _) _ _ s
  rw [if_neg hno, pick_rev]
  first
    | exact wpAny_bind (m := Builtin.Tuple.tupleExact _) (wpAny_newObj_type (wpAny_pure ⟨_, rfl, wpAny_pure h⟩) htake)
    | exact wpAny_bind (m := Builtin.Tuple.tupleExact _) (wpAny_newObj_type (wpAny_bind (wpAny_pure (wpAny_pure ⟨_, rfl, wpAny_pure h⟩))) htake)
    | exact wpAny_bind (wpAny_bind (m := Builtin.Tuple.tupleExact _) (wpAny_newObj_type (wpAny_pure (wpAny_pure ⟨_, rfl, wpAny_pure h⟩)) htake))
    | exact wpAny_bind (wpAny_bind (m := Builtin.Tuple.tupleExact _) (wpAny_newObj_type (wpAny_pure ⟨_, rfl, wpAny_pure h⟩) htake))
end
section
variable {X : Cx}
def tRevA (K : PySem.W.Frag) (te : TE) : TE := fun σ H Q => te σ H fun x H1 => ∃ a xs, x = .ref a ∧ ((SqL K H1 a xs ∧ ∀ p, H1 p = none → Q (.ref p) (upd H1 p (.lst xs.reverse))) ∨ (SqT K H1 a xs ∧ ∀ p, H1 p = none → Q (.ref p) (upd H1 p (.tup xs.reverse))))
theorem pe_revA {e : Expr} {te : TE} {k : Nat} {p1 p2 p3 pos : Pos} (he : PE X e te) : PE X (.Subscript e (.Slice none none (some (.UnaryOp .USub (.Constant (.int 1) k p1) p2)) p3) pos) (tRevA X.K te) := by
  refine ⟨fun pins s σ H Q I h => ?_⟩
  refine Subscript_ (thn (he.run pins s σ H _ I h) fun v s1 ⟨x, H1, I1, r1, q1⟩ => ?_)
  obtain ⟨a, xs, ex, q1⟩ := q1
  subst ex
  cases r1
  have hst : PO X (some (.UnaryOp .USub (.Constant (.int 1) k p1) p2)) (tPart (tUn (rU fun i => .int (-i)) (tC (.int 1)))) := po_some (pe_un un_neg pe_int)
  refine wpAny_Slice (thn (po_none.run pins s1 σ H1 (fun o H2 => o = none ∧ H2 = H1) I1 ⟨rfl, rfl⟩) fun vl s2 ⟨l, H2, I2, pl, el, e2⟩ => ?_)
  subst el e2
  refine thn (po_none.run pins s2 σ H2 (fun o H3 => o = none ∧ H3 = H2) I2 ⟨rfl, rfl⟩) fun vu s3 ⟨u, H3, I3, pu, eu, e3⟩ => ?_
  subst eu e3
  refine thn (hst.run pins s3 σ H3 (fun o H4 => o = some (-1) ∧ H4 = H3) I3 ⟨1, rfl, -1, rfl, rfl, rfl⟩) fun vs s4 ⟨o, H4, I4, ps, eo, e4⟩ => ?_
  subst eo e4
  have I5 : Inv X pins σ H4 { s4 with heap := s4.heap.push { cls := .type "slice", data := .fields #[vl, vu, vs] } } := I4.kept (t' := s4.toks) fun b ob q => Heap.get?_push_of_some _ q
  show wpAny (model X.prog X.w) X.A (subscriptTail e (.Slice none none (some (.UnaryOp .USub (.Constant (.int 1) k p1) p2)) p3) (.ref a) (.ref s4.heap.objs.size)) (EP X pins σ Q) X.xe { s4 with heap := s4.heap.push { cls := .type "slice", data := .fields #[vl, vu, vs] } }
  rcases q1 with ⟨hx, q⟩ | ⟨hx, q⟩
  · obtain ⟨its, r, ht, hz⟩ := I5.list hx
    have hlen := r.length
    refine tail_any (ops := [.ref a, .ref s4.heap.objs.size]) ht.isList.typeIs (PySem.slot_list_getitem.lookup) ?_ (by with_unfolding_all rfl)
    refine wpAny_getItem_list_slice ht.isList (Heap.IsSliceOf.new _ vl vu vs) pl pu ps (by decide) ?_ (by rw [List.size_toArray]; omega)
    rw [PySem.W.krv_pick]
    refine ⟨.ref _, _, I5.laid (t' := s4.toks) (o := .lst xs.reverse) (fun b ob q => Heap.get?_push_of_some _ q) (Nat.le_refl _) ?_, rfl, q _ (I5.hok.fresh (Nat.le_refl _))⟩
    exact ⟨by rw [List.length_reverse]; exact hz, _, 0, r.reverse, Heap.get?_push_size _ rfl⟩
  · obtain ⟨its, r, ht, hz⟩ := I5.tuple hx
    have hlen := r.length
    cases pl
    cases pu
    refine tail_any (ops := [.ref a, .ref s4.heap.objs.size]) ht.typeIs (PyProof.Rows.slot_tuple_getitem.lookup) ?_ (by with_unfolding_all rfl)
    refine getItem_tuple_rev ht (Heap.IsSliceOf.new _ .none .none vs) ps ?_ (by rw [List.size_toArray]; omega)
    refine ⟨.ref _, _, I5.laid (t' := s4.toks) (o := .tup xs.reverse) (fun b ob q => Heap.get?_push_of_some _ q) (Nat.le_refl _) ?_, rfl, q _ (I5.hok.fresh (Nat.le_refl _))⟩
    exact ⟨by rw [List.length_reverse]; exact hz, _, r.reverse, IsTup.new _ _⟩
end
section
variable {W : Wd} {XW : L2.WX} {X : Cx}
theorem m_revA (hW : W.Good) (hK : X.K = W.K) {e : Expr} {k : Nat} {p1 p2 p3 pos : Pos} {ta : En → Mst → R D} (he : PE X e (tE W XW true ta)) :
    PE X (.Subscript e (.Slice none none (some (.UnaryOp .USub (.Constant (.int 1) k p1) p2)) p3) pos) (tE W XW false fun ρ M => (ta ρ M).bind fun x M => match x with
    | .lst xs => .ok (.lst xs.reverse) M
    | .tup xs => .ok (.tup xs.reverse) M
    | _ => .stuck) := PE.imp (pe_revA he) fun σ H Q ⟨F, α, ρ, M, c, s, h⟩ => by
  refine bindE c s h fun F1 α1 H1 M1 x v g1 c1 s1 r1 h1 => ?_
  cases x with
  | lst ds =>
    obtain ⟨p, vs, rfl, h2, h3, h4⟩ := r1.list c1
    exact ⟨p, vs, rfl, .inl ⟨SqL.of h2, fun a ha => PQ.lst hW c1 h1 h3.reverse (by rw [List.length_reverse]; exact h4) ha⟩⟩
  | tup ds =>
    obtain ⟨p, vs, rfl, _, h2, h3, h4⟩ := r1.tuple c1
    exact ⟨p, vs, rfl, .inr ⟨hK ▸ h2, fun a ha => PQ.tup hW c1 h1 h3.reverse (by rw [List.length_reverse]; exact h4) ha⟩⟩
  | _ => exact h1.elim
end
end Mi
end
section
set_option Elab.async false
set_option autoImplicit false
set_option linter.all false
set_option maxRecDepth 100000
set_option maxHeartbeats 4000000
namespace Mi
open PySem PySem.Spec PyProof.Rows L2 LamX
/-! ### the checker of expressions -/
/-- what is known of a def: its places' names, its scope, the defs it may call (name, number, arity), the constants, the refusals -/
structure Sc where
  N : List Str
  sc : Scope
  fns : List (Str × Nat × Nat)
  gls : List (Str × Int)
  cls : List (Str × Nat)
  own : Option (List (Str × NameKind))
  tell : Bool
/-- how many calls deeper a deed that is tried runs -/
def Sc.up (s : Sc) : Nat := if s.tell then 3 else 0
def bltN : List Str := ["len", "sum", "min", "max", "sorted", "list", "tuple", "all", "any", "int", "str", "set", "range", "zip", "enumerate", "isinstance", "bool"]
def Sc.blk (s : Sc) (scope : Scope) : Sc := { s with sc := relab scope s.sc, own := some scope.names }
/-- a lambda's body -/
def Sc.lam (s : Sc) (scope : Scope) : Sc := { s with sc := scope, own := some [], tell := false }
def noArgs : Arguments → Bool
  | ⟨[], [], none, [], [], none, []⟩ => true
  | _ => false
/-- a name that is set in its cell -/
def Sc.fnOk (s : Sc) (x : Str) : Bool := match s.own with
  | none => true
  | some ns => ns.lookup x == some .cell
def Sc.setOk (s : Sc) (i : Nat) (x : Str) : Bool := decide (s.N[i]? = some x) && (s.sc.names.lookup x == some .local || (s.sc.names.lookup x == some .cell && s.fnOk x))
def Sc.vis (s : Sc) (x : Str) : Bool := match s.sc.names.lookup x with
  | some .local => true
  | some .cell => true
  | some .free => true
  | _ => false
def Sc.glb (s : Sc) (x : Str) : Bool := s.sc.names.lookup x == some .globalImplicit
/-- a built-in name is meant -/
def Sc.blt (s : Sc) (x : Str) (y : Str) : Bool := decide (x = y) && decide (y ∈ bltN) && s.glb x
def Sc.slot (s : Sc) (i : Nat) (x : Str) : Bool := decide (s.N[i]? = some x) && s.vis x && !(x == ("__debug__" : Str)) && !(x == ("__classdict__" : Str))
def opOk : BO → Operator → Bool
  | .add, .Add => true | .sub, .Sub => true | .mul, .Mult => true | .fdiv, .FloorDiv => true | .mod, .Mod => true | .pow, .Pow => true | _, _ => false
def coOk : CO → CmpOp → Bool
  | .eq, .Eq => true | .ne, .NotEq => true | .lt, .Lt => true | .le, .LtE => true | .gt, .Gt => true | .ge, .GtE => true | .isn, .Is => true | .nisn, .IsNot => true | .inn, .In => true | .nin, .NotIn => true | _, _ => false
def unb : Expr → Expr
  | .BoolOp _ [y] _ => y
  | e => e
def b1N : B1 → Str
  | .len => "len" | .sum => "sum" | .min => "min" | .max => "max" | .sorted => "sorted" | .list => "list" | .tuple => "tuple" | .all => "all" | .any => "any" | .int => "int" | .str => "str" | .sset => "sorted" | .lset => "len"
def b2N : B2 → Str
  | .min => "min" | .max => "max"
def noAttrCall : Expr → Bool
  | .Call _ _ _ _ => false
  | _ => true
/-- targets: a name, a tuple of names -/
def chkG (s : Sc) : List Nat → Expr → Bool
  | t, .Name x _ => (match t with
    | [i] => s.setOk i x
    | _ => false)
  | t, .Tuple es _ _ => decide (2 ≤ t.length) && decide (es.length = t.length) && (es.zip t).all fun p => match p.1 with
    | .Name x _ => s.setOk p.2 x
    | _ => false
  | _, _ => false
def listE : Expr → Bool
  | .List _ _ => true
  | .ListComp _ _ _ _ => true
  | _ => false
mutual
/-- f: it may be a list of one's own; t: as a test -/
def chkE : ME → Sc → Bool → Bool → Expr → Bool
  | .non, s, f, t, e => (match unb e with
    | .Constant .none _ _ => !t
    | _ => false)
  | .bl b, s, f, t, e => (match unb e with
    | .Constant (.bool c) _ _ => decide (b = c)
    | _ => false)
  | .int i, s, f, t, e => (match unb e with
    | .Constant (.int c) _ _ => decide (i = c)
    | _ => false)
  | .str x, s, f, t, e => (match unb e with
    | .Constant (.str c) _ _ => decide (x = c)
    | _ => false)
  | .var i, s, f, t, e => (match unb e with
    | .Name x _ => s.slot i x
    | _ => false)
  | .peek i, s, f, t, e => f && (match unb e with
    | .Name x _ => s.slot i x
    | _ => false)
  | .gl x d, s, f, t, e => (match unb e with
    | .Name y _ => decide (x = y) && s.glb x && !(x == ("__debug__" : Str)) && (match d with
      | .int i => decide ((x, i) ∈ s.gls)
      | _ => false)
    | _ => false)
  | .tup es, s, f, t, e => (match unb e with
    | .Tuple ys _ _ => decide (ys.length ≤ 1000) && chkEs es s ys
    | _ => false)
  | .lst es, s, f, t, e => (match unb e with
    | .List ys _ => decide (ys.length ≤ 1000) && chkEs es s ys
    | _ => false)
  | .new es, s, f, t, e => (match unb e with
    | .List ys _ => decide (ys.length ≤ 1000) && chkEs es s ys
    | _ => false)
  | .bin op a b, s, f, t, e => (match unb e with
    | .BinOp x o y _ => opOk op o && chkE a s true false x && chkE b s true false y
    | _ => false)
  | .neg a, s, f, t, e => (match unb e with
    | .UnaryOp .USub x _ => chkE a s true false x
    | _ => false)
  | .not a, s, f, t, e => (match unb e with
    | .UnaryOp .Not x _ => chkE a s true t x
    | _ => false)
  | .cmp op a b, s, f, t, e => (match unb e with
    | .Compare x [o] [y] _ => coOk op o && noSet y && chkE a s true false x && chkE b s true false y
    | _ => false)
  | .chn op op' a b c, s, f, t, e => (match unb e with
    | .Compare x [o, o'] [y, z] _ => coOk op o && coOk op' o' && noSet z && chkE a s true false x && chkE b s true false y && chkE c s true false z
    | _ => false)
  | .and a b, s, f, t, e => (match unb e with
    | .BoolOp .And (x :: y :: r) p => chkE a s true t x && chkE b s f t (.BoolOp .And (y :: r) p)
    | _ => false)
  | .or a b, s, f, t, e => (match unb e with
    | .BoolOp .Or (x :: y :: r) p => chkE a s true t x && chkE b s f t (.BoolOp .Or (y :: r) p)
    | _ => false)
  | .ite c a b, s, f, t, e => (match unb e with
    | .IfExp z x y _ => !t && chkE c s true true z && chkE a s f false x && chkE b s f false y
    | _ => false)
  | .sub a i, s, f, t, e => (match unb e with
    | .Subscript x y _ => noSlice y && chkE a s true false x && chkE i s true false y
    | _ => false)
  | .slc a lo hi, s, f, t, e => (match unb e with
    | .Subscript x (.Slice l h none _) _ => chkE a s true false x && chkP lo s l && chkP hi s h
    | _ => false)
  | .rev a, s, f, t, e => (match unb e with
    | .Subscript x (.Slice none none (some (.UnaryOp .USub (.Constant (.int 1) _ _) _)) _) _ => chkE a s true false x
    | _ => false)
  | .call k es, s, f, t, e => (match unb e with
    | .Call (.Name x _) (y :: ys) [] _ => decide ((x, k, (y :: ys).length) ∈ s.fns) && s.glb x && !(x == ("__debug__" : Str)) && (y :: ys).all noStar && chkEs es s (y :: ys)
    | _ => false)
  | .b1 g a, s, f, t, e => (match g, unb e with
    | .sset, .Call (.Name x _) [.Call (.Name y _) [z] [] _] [] _ => s.blt x "sorted" && s.blt y "set" && noStar z && chkE a s true false z
    | .lset, .Call (.Name x _) [.Call (.Name y _) [z] [] _] [] _ => s.blt x "len" && s.blt y "set" && noStar z && chkE a s true false z
    | .sset, _ => false
    | .lset, _ => false
    | g, .Call (.Name x _) [y] [] _ => s.blt x (b1N g) && noStar y && chkE a s true false y
    | _, _ => false)
  | .b2 g a b, s, f, t, e => (match unb e with
    | .Call (.Name x _) [y, z] [] _ => s.blt x (b2N g) && noStar y && noStar z && chkE a s true false y && chkE b s true false z
    | _ => false)
  | .isi a ty, s, f, t, e => (match unb e with
    | .Call (.Name x _) [y, .Name z _] [] _ => s.blt x "isinstance" && decide (z = ((tyN ty : String) : Str)) && s.glb z && noStar y && chkE a s true false y
    | _ => false)
  | .index a b, s, f, t, e => (match unb e with
    | .Call (.Attribute o m p) [y] [] q => decide (m = "index") && noAttrCall o && (p.endLine == q.line) && noStar y && chkE a s true false o && chkE b s true false y
    | _ => false)
  | .lrg it, s, f, t, e => (match unb e with
    | .Call (.Name x _) [y] [] _ => s.blt x "list" && noStar y && chkR it s y
    | _ => false)
  | .trg it, s, f, t, e => (match unb e with
    | .Call (.Name x _) [y] [] _ => s.blt x "tuple" && noStar y && chkR it s y
    | _ => false)
  | .comp elt ts it, s, f, t, e => (match unb e with
    | .ListComp y [⟨tg, iter, [], 0⟩] scope _ => decide (ts.all (fun i => decide (i < s.N.length))) && blkC s.N s.sc scope ((ts.map fun i => s.N.getD i "").zip ts) && chkG (s.blk scope) ts tg && noSet iter && chkI it s true tg iter && chkE elt (s.blk scope) false false y
    | _ => false)
  | .compIf elt ts it c, s, f, t, e => (match unb e with
    | .ListComp y [⟨tg, iter, [z], 0⟩] scope _ => decide (ts.all (fun i => decide (i < s.N.length))) && blkC s.N s.sc scope ((ts.map fun i => s.N.getD i "").zip ts) && chkG (s.blk scope) ts tg && noSet iter && chkI it s true tg iter && chkE c (s.blk scope) true true z && chkE elt (s.blk scope) false false y
    | _ => false)
  | .comp2 _ _ _ _ _, _, _, _, _ => false
  | .dget i k, s, f, t, e => (match unb e with
    | .Subscript (.Name x _) y _ => s.slot i x && noSlice y && chkE k s true false y
    | _ => false)
  | .dgetd i k d, s, f, t, e => (match unb e with
    | .Call (.Attribute (.Name x _) m p) [y, z] [] q => decide (m = "get") && s.slot i x && (p.endLine == q.line) && noStar y && noStar z && chkE k s true false y && chkE d s false false z
    | _ => false)
  | .dn a, s, f, t, e => !t && (noComp e && chkE a s f false e)
  | .ctup a, s, f, t, e => (match unb e with
    | .Call (.Name x _) [y] [] _ => s.blt x "tuple" && noStar y && chkE a s true false y
    | _ => false)
  | .tix a b, s, f, t, e => (match unb e with
    | .Call (.Attribute o m p) [y] [] q => decide (m = "index") && noAttrCall o && (p.endLine == q.line) && noStar y && chkE a s true false o && chkE b s true false y
    | _ => false)
  | .told _ m, s, f, t, e => (match unb e with
    | .Call (.Name g _) [.Lambda params y scope _] [] _ => s.tell && decide (g = "_law_told") && s.glb g && noArgs params && lamSB s.sc scope && chkE m (s.lam scope) false false y
    | _ => false)
def chkEs : MEs → Sc → List Expr → Bool
  | .nil, _, [] => true
  | .cons e es, s, y :: ys => noStar y && chkE e s false false y && chkEs es s ys
  | _, _, _ => false
def chkP : MP → Sc → Option Expr → Bool
  | .no, _, none => true
  | .some e, s, some y => chkE e s true false y
  | _, _, _ => false
/-- range(..) as an argument -/
def chkR : MI → Sc → Expr → Bool
  | .rng a, s, .Call (.Name x _) [y] [] _ => s.blt x "range" && noStar y && chkE a s true false y
  | .rng2 a b, s, .Call (.Name x _) [y, z] [] _ => s.blt x "range" && noStar y && noStar z && chkE a s true false y && chkE b s true false z
  | _, _, _ => false
/-- f: what is gone through may be a list of one's own -/
def chkI : MI → Sc → Bool → Expr → Expr → Bool
  | .seq a, s, f, _, e => chkE a s f false e
  | .rng a, s, f, _, e => (match e with
    | .Call (.Name x _) [y] [] _ => s.blt x "range" && noStar y && chkE a s true false y
    | _ => false)
  | .rng2 a b, s, f, _, e => (match e with
    | .Call (.Name x _) [y, z] [] _ => s.blt x "range" && noStar y && noStar z && chkE a s true false y && chkE b s true false z
    | _ => false)
  | .rng3 a b c, s, f, _, e => (match e with
    | .Call (.Name x _) [y, z, w] [] _ => s.blt x "range" && noStar y && noStar z && noStar w && chkE a s true false y && chkE b s true false z && chkE c s true false w
    | _ => false)
  | .zip a b, s, f, tg, e => (match tg, e with
    | .Tuple _ _ _, .Call (.Name x _) [y, z] [] _ => s.blt x "zip" && noStar y && noStar z && chkE a s false false y && chkE b s false false z
    | _, _ => false)
  | .enum a, s, f, tg, e => (match tg, e with
    | .Tuple _ _ _, .Call (.Name x _) [y] [] _ => s.blt x "enumerate" && noStar y && chkE a s false false y
    | _, _ => false)
  | .txt a, s, f, _, e => chkE a s false false e
  | .keys i, s, f, _, e => (match e with
    | .Name x _ => s.slot i x
    | _ => false)
  | .enumT _, _, _, _, _ => false
end
/-! ### what it stands on -/
structure TellOk (W : Wd) (X : Cx) : Prop where
  tab : W.tab = Tabs
  ex : ∃ (cl : Nat → Addr) (CS ft g c P : Addr), TellDef X.prog X.K X.mg cl CS ft g ∧ (∀ c, c < 9 → ∃ k, k < 9 ∧ W.ca c = cl k ∧ namesL.getD k "" = kinds c) ∧ TabB X.base X.mg c P ∧ X.env.code = .ref c ∧ (P, X.env.qual ++ "<lambda>") ∈ W.T ∧ ∀ p ∈ W.T, p.1 = P → p.2 = X.env.qual ++ "<lambda>"
structure CokE (W : Wd) (s : Sc) (Φ : Fs) (X : Cx) (XW : L2.WX) : Prop where
  good : W.Good
  K : X.K = W.K
  scp : X.env.scope = s.sc
  NN : X.N = s.N
  nd : s.N.Nodup
  calm : X.calm = true
  room : ∃ lv, Room (lv + s.up) X.A ∧ ∀ x k ar, (x, k, ar) ∈ s.fns → ∃ f fd ps, FnOk X.prog X.w X.K X.mg X.base (L2N.CX X.prog X.w) lv f fd ps (spOf W ar (Φ k)) ∧ X.mg x = some (.ref f) ∧ PySem.W.keepIn X.K (.ref f) = true ∧ Binds X.K fd ps []
  blt : ∀ x ∈ bltN, X.mg x = none
  gls : ∀ x i, (x, i) ∈ s.gls → ∃ u, X.mg x = some u ∧ RelV (.int i) u
  tk : L2N.Takes X XW
  fn : ∀ x, s.fnOk x = true → X.fn x = true
  tl : s.tell = true → TellOk W X
section
variable {W : Wd} {XW : L2.WX} {Φ : Fs} {X : Cx} {s : Sc} {f t : Bool} {e : Expr} {m : ME}
theorem relabel_eq {scope : Scope} {env : Env} : relabel scope env = relab scope env.scope := rfl
theorem CokE.blk (C : CokE W s Φ X XW) (scope : Scope) (sh : Shared) (H : Hp) (Ca : Addr) (cl : List (Str × Addr)) (fp : List Addr) : CokE W (s.blk scope) Φ (X.blk sh H scope (compEnvC scope cl Ca X.env) fp) WXF :=
  ⟨C.good, C.K, by show relabel scope X.env = _; rw [relabel_eq, C.scp]; rfl, C.NN, C.nd, C.calm, C.room, C.blt, C.gls, takes_no, fun x h => h, fun h => ⟨(C.tl h).tab, (C.tl h).ex⟩⟩
theorem CokE.lam (C : CokE W s Φ X XW) {scope : Scope} {lv : Nat} {A : Around} {outer : List Env} {sh : Shared} {H : Hp} {E : XK} {f c' : Addr} (hr : Room lv (A.deeper (lamEnv X scope sh.heap.objs.size f c')))
    (hf : ∀ x k ar, (x, k, ar) ∈ s.fns → ∃ f fd ps, FnOk X.prog X.w X.K X.mg X.base (L2N.CX X.prog X.w) lv f fd ps (spOf W ar (Φ k)) ∧ X.mg x = some (.ref f) ∧ PySem.W.keepIn X.K (.ref f) = true ∧ Binds X.K fd ps []) :
    CokE W (s.lam scope) Φ (lamN X A outer sh H E scope f c') (fun cls d _ H => E cls d H) :=
  ⟨C.good, C.K, rfl, C.NN, C.nd, rfl, ⟨lv, hr, hf⟩, C.blt, C.gls, L2N.takes_of rfl rfl rfl rfl, (fun x h => (Bool.false_ne_true (show false = true from h)).elim), (fun h => (Bool.false_ne_true h).elim)⟩
theorem PE.unb {t : TE} (h : PE X (unb e) t) : PE X e t := by
  unfold Mi.unb at h
  split at h
  · exact pe_one h
  · exact h
theorem CokE.glb (C : CokE W s Φ X XW) {x : Str} (h : s.glb x = true) : Gl X x := by
  unfold Sc.glb at h
  have : X.env.scope.names.lookup x = some .globalImplicit := by
    rw [C.scp]
    exact eq_of_beq h
  exact this
theorem CokE.bltn (C : CokE W s Φ X XW) {x y : Str} (h : s.blt x y = true) : x = y ∧ Gl X x ∧ X.mg x = none := by
  unfold Sc.blt at h
  simp only [Bool.and_eq_true, decide_eq_true_eq] at h
  obtain ⟨⟨h1, h2⟩, h3⟩ := h
  subst h1
  exact ⟨rfl, C.glb h3, C.blt x h2⟩
theorem CokE.slot (C : CokE W s Φ X XW) {i : Nat} {x : Str} {p : Pos} (h : s.slot i x = true) : PE X (.Name x p) (tVar i) := by
  unfold Sc.slot at h
  simp only [Bool.and_eq_true, decide_eq_true_eq, Bool.not_eq_true'] at h
  obtain ⟨⟨⟨h1, h2⟩, h3⟩, h4⟩ := h
  refine pe_var (by rw [C.NN]; exact h1) ?_ h3 h4
  unfold Sc.vis at h2
  unfold Vis
  rw [C.scp]
  split at h2
  · rename_i e
    exact .inl e
  · rename_i e
    exact .inr (.inl e)
  · rename_i e
    exact .inr (.inr e)
  · cases h2
theorem op_ok (C : CokE W s Φ X XW) {op : BO} {o : Operator} (h : opOk op o = true) : ∃ r, OpR X (binaryOp o) r ∧ Sound2 W r (fun _ => binD op) := by
  have hK := C.K
  unfold opOk at h
  split at h
  · exact ⟨_, hK ▸ o_add, s_add C.good⟩
  · exact ⟨_, op_sub, s_sub⟩
  · exact ⟨_, hK ▸ o_mul, s_mul C.good⟩
  · exact ⟨_, op_fdivW, s_arI (C := CDivW) (h := fun i j => (inferInstance : Decidable (0 < j ∧ j.natAbs.log2 < 9000)))⟩
  · exact ⟨_, op_mod, s_arI (C := fun _ j => 0 < j) (h := fun i j => (inferInstance : Decidable (0 < j)))⟩
  · exact ⟨_, op_pow, s_arI (C := CPow) (h := fun i j => (inferInstance : Decidable (0 ≤ j ∧ j ≤ 1000000 ∧ i.natAbs < 2 ^ 64)))⟩
  · cases h
theorem co_ok (C : CokE W s Φ X XW) {op : CO} {o : CmpOp} (h : coOk op o = true) : ∃ r, OpR X (compareOp o) r ∧ Sound2 W r (cmpF (cmpD op)) := by
  have hK := C.K
  obtain ⟨lv, hr, _⟩ := C.room
  unfold coOk at h
  split at h
  · exact ⟨_, hK ▸ o_eq hr, s_eq⟩
  · exact ⟨_, hK ▸ o_ne hr, s_ne⟩
  · exact ⟨_, hK ▸ o_lt hr, s_lt⟩
  · exact ⟨_, op_le, s_ordI⟩
  · exact ⟨_, op_gt, s_ordI⟩
  · exact ⟨_, op_ge, s_ordI⟩
  · exact ⟨_, o_is, s_is⟩
  · exact ⟨_, o_isnot, s_isnot⟩
  · exact ⟨_, hK ▸ o_in hr, s_in⟩
  · exact ⟨_, hK ▸ o_notin hr, s_notin⟩
  · cases h
end
end Mi
end
section
set_option Elab.async false
set_option autoImplicit false
set_option linter.all false
set_option maxRecDepth 100000
set_option maxHeartbeats 4000000
namespace Mi
open PySem PySem.Spec PyProof.Rows L2
section
variable {W : Wd} {XW : L2.WX} {Φ : Fs} {X : Cx} {s : Sc} {f t : Bool} {e tg : Expr} {m : ME}
/-- as a value, as a test -/
def OkE (W : Wd) (XW : L2.WX) (X : Cx) (f t : Bool) (e : Expr) (d : En → Mst → R D) : Prop := (t = false → PE X e (tE W XW f d)) ∧ (t = true → PT X e (tT W XW d))
theorem OkE.val {d : En → Mst → R D} (h : OkE W XW X f false e d) : PE X e (tE W XW f d) := h.1 rfl
theorem OkE.test {d : En → Mst → R D} (h : OkE W XW X f true e d) : PT X e (tT W XW d) := h.2 rfl
theorem unb_eq (h : plainTest (unb e) = true) : unb e = e ∨ ∃ o p, e = .BoolOp o [unb e] p := by
  unfold unb
  split
  · exact .inr ⟨_, _, rfl⟩
  · exact .inl rfl
theorem PT.unb {t : TT} (h : PT X (Mi.unb e) t) : PT X e t := by
  unfold Mi.unb at h
  split at h
  · rename_i o y p
    cases o with
    | And => exact (pw_and1 h).pt
    | Or => exact (pw_or1 h).pt
  · exact h
theorem pw_of {o : BoolOp} {y : Expr} {r : List Expr} {p : Pos} {t : TT} (h : PT X (.BoolOp o (y :: r) p) t) : PW X (.BoolOp o (y :: r) p) t := by
  cases o with
  | And => exact ⟨fun wh pins s σ H Q I hq => h.run pins s σ H Q I hq⟩
  | Or => exact ⟨fun wh pins s σ H Q I hq => h.run pins s σ H Q I hq⟩
/-- a form whose test is its value's truth -/
theorem ok_plain {d : En → Mst → R D} (h : PE X (unb e) (tE W XW false d)) (hp : plainTest (unb e) = true) : OkE W XW X f t e d := ⟨fun _ => PE.unb (PE.up h), fun _ => PT.unb (m_test h hp)⟩
theorem ok_plainB {d : En → Mst → R D} (h : PE X (unb e) (tE W XW f d)) (hp : plainTest (unb e) = true) : OkE W XW X f t e d := ⟨fun _ => PE.unb h, fun _ => PT.unb (m_test h hp)⟩
theorem getD_at {N : List Str} {i : Nat} {x : Str} (h : N[i]? = some x) : N.getD i "" = x := by
  rw [List.getD_eq_getElem?_getD, h]
  rfl
/-! targets -/
theorem CokE.set_ok (C : CokE W s Φ X XW) {i : Nat} {x : Str} (h : s.setOk i x = true) : X.N[i]? = some x ∧ L2.Loc X.env.scope x ∧ (X.fn x = true ∨ X.env.scope.names.lookup x = some .local) := by
  unfold Sc.setOk at h
  simp only [Bool.and_eq_true, Bool.or_eq_true, decide_eq_true_eq, beq_iff_eq] at h
  obtain ⟨h1, h2⟩ := h
  rw [C.NN, C.scp]
  refine ⟨h1, ?_, ?_⟩
  · rcases h2 with h2 | ⟨h2, _⟩
    · exact .inl h2
    · exact .inr h2
  · rcases h2 with h2 | ⟨_, h2⟩
    · exact .inr h2
    · exact .inl (C.fn x h2)
theorem g_raw (C : CokE W s Φ X XW) {t : List Nat} {es : List Expr} {k : Nat} {p : Pos} (h : chkG s t (.Tuple es k p) = true) : 2 ≤ t.length ∧ PG X (.Tuple es k p) (gTup X.K t.length (gNames t)) := by
  have nd : X.N.Nodup := by
    rw [C.NN]
    exact C.nd
  have name : ∀ (i : Nat) (x : Str) (p : Pos), s.setOk i x = true → PG X (.Name x p) (gName i) := fun i x p h => by
    obtain ⟨h1, h2, h3⟩ := C.set_ok h
    exact pg_name nd h1 h2 h3
  unfold chkG at h
  simp only [Bool.and_eq_true, decide_eq_true_eq] at h
  obtain ⟨⟨h1, h2⟩, h3⟩ := h
  have key : ∀ (t : List Nat) (es : List Expr), es.length = t.length → ((es.zip t).all fun p => match p.1 with
    | .Name x _ => s.setOk p.2 x
    | _ => false) = true → PGs X es (gNames t) ∧ (assignEach es X.env).length = t.length ∧ (assignEach es X.env).findIdx? (·.1) = none := by
    intro t
    induction t with
    | nil =>
      intro es hl _
      cases es with
      | nil => exact ⟨pgs_nil, rfl, rfl⟩
      | cons e es => cases hl
    | cons i t ih =>
      intro es hl ha
      cases es with
      | nil => cases hl
      | cons e es =>
        rw [List.zip_cons_cons, List.all_cons, Bool.and_eq_true] at ha
        obtain ⟨a1, a2⟩ := ha
        obtain ⟨q1, q2, q3⟩ := ih es (by simpa using hl) a2
        cases e with
        | Name x p =>
          have e1 : assignEach (.Name x p :: es) X.env = (false, assign (.Name x p) X.env) :: assignEach es X.env := by first | rfl | (rw [assignEach])
          refine ⟨pgs_cons (name _ _ _ a1) q1 (by rw [e1]; rfl), by rw [e1, List.length_cons, q2]; rfl, ?_⟩
          rw [e1, List.findIdx?_cons, q3]
          rfl
        | _ => cases a1
  obtain ⟨q1, q2, q3⟩ := key _ es h2 h3
  exact ⟨h1, pg_tup C.calm q1 q2 q3⟩
theorem g_ok (C : CokE W s Φ X XW) {t : List Nat} (h : chkG s t tg = true) : PG X tg (tG W t) := by
  have h' := h
  unfold chkG at h
  split at h
  · split at h
    · rename_i i x p
      have nd : X.N.Nodup := by
        rw [C.NN]
        exact C.nd
      obtain ⟨h1, h2, h3⟩ := C.set_ok h
      exact g_name (pg_name nd h1 h2 h3)
    · cases h
  · obtain ⟨h1, h2⟩ := g_raw C h'
    exact g_tup C.K h2 h1
  · cases h
theorem fold_no (h : noSet e = true) {env : Env} : ∀ x, foldedSetIterable e env x = pure x := by
  intro x
  cases e <;> first | rfl | cases h
theorem base_no {o : Expr} {a : Str} {env : Env} {w : Sem Value} (h : noAttrCall o = true) : attributeBase o a env w = w := by
  cases o <;> first | rfl | cases h
theorem mem_ty (ty : Ty) : ((tyN ty : String) : Str) ∈ bltN := by cases ty <;> decide
theorem rg_not {it : MI} {s : Sc} {y : Expr} (h : chkR it s y = true) : True := trivial
end
end Mi
end
section
set_option Elab.async false
set_option autoImplicit false
set_option linter.all false
set_option maxRecDepth 100000
set_option maxHeartbeats 8000000
namespace Mi
open PySem PySem.Spec PyProof.Rows L2
theorem len_okEs {Φ : Fs} : ∀ (m : MEs) {s : Sc} {es : List Expr}, chkEs m s es = true → ∀ ρ M ds M', m.den Φ ρ M = .ok ds M' → ds.length = es.length
  | .nil, s, es, h, ρ, M, ds, M', e => by
    cases es with
    | nil =>
      cases e
      rfl
    | cons y ys => cases h
  | .cons a r, s, es, h, ρ, M, ds, M', e => by
    cases es with
    | nil => cases h
    | cons y ys =>
      simp only [chkEs, Bool.and_eq_true] at h
      simp only [MEs.den] at e
      obtain ⟨x, M1, e1, e⟩ := bind_ok e
      obtain ⟨xs, M2, e2, e⟩ := bind_ok e
      cases e
      have := len_okEs r h.2 _ _ _ _ e2
      simp [this]
theorem b1_call {W : Wd} {XW : L2.WX} {Φ : Fs} {X : Cx} {s : Sc} (C : CokE W s Φ X XW) {g : B1} {x : Str} {y : Expr} {p pos : Pos} {ta : En → Mst → R D} (h : s.blt x (b1N g) = true) (hs : noStar y = true) (ha : PE X y (tE W XW true ta)) (n1 : g ≠ .sset) (n2 : g ≠ .lset) :
    PE X (.Call (.Name x p) [y] [] pos) (tE W XW false (t1 ta (b1D g))) := by
  obtain ⟨rfl, hg, hm⟩ := C.bltn h
  have hK := C.K
  obtain ⟨lv, hr, _⟩ := C.room
  cases g with
  | len => exact m_b1B (hK ▸ call_len) s_len hg hm PySem.boot_len ha hs (by decide) (by decide)
  | sum => exact m_b1B (hK ▸ cr_sumA C.calm) s_sum hg hm boot_sum ha hs (by decide) (by decide)
  | min => exact m_b1B (hK ▸ cr_minA C.calm hr) s_min hg hm boot_min ha hs (by decide) (by decide)
  | max => exact m_b1B (hK ▸ cr_maxA C.calm hr) s_max hg hm boot_max ha hs (by decide) (by decide)
  | sorted => exact m_b1B (hK ▸ cr_sortedA hr) (s_sorted C.good) hg hm boot_sorted ha hs (by decide) (by decide)
  | list => exact m_b1T (hK ▸ call_list_of) (s_list C.good) hg hm boot_list ha hs (by decide) (by decide)
  | tuple => exact m_b1T (hK ▸ call_tuple_of) (s_tuple C.good) hg hm boot_tuple ha hs (by decide) (by decide)
  | all => exact m_b1B (hK ▸ cr_allA C.calm) s_all hg hm boot_all ha hs (by decide) (by decide)
  | any => exact m_b1B (hK ▸ cr_anyA C.calm) s_any hg hm boot_any ha hs (by decide) (by decide)
  | int => exact m_b1T c_int s_int hg hm boot_int ha hs (by decide) (by decide)
  | str => exact m_b1T call_str_int s_str hg hm boot_str ha hs (by decide) (by decide)
  | sset => exact absurd rfl n1
  | lset => exact absurd rfl n2
theorem b2_call {W : Wd} {XW : L2.WX} {Φ : Fs} {X : Cx} {s : Sc} (C : CokE W s Φ X XW) {g : B2} {x : Str} {y z : Expr} {p pos : Pos} {ta tb : En → Mst → R D} (h : s.blt x (b2N g) = true) (hs : noStar y = true) (hs2 : noStar z = true) (ha : PE X y (tE W XW true ta)) (hb : PE X z (tE W XW true tb)) :
    PE X (.Call (.Name x p) [y, z] [] pos) (tE W XW false (t2 ta tb fun _ => b2D g)) := by
  obtain ⟨rfl, hg, hm⟩ := C.bltn h
  cases g with
  | min => exact m_b2 (call_min2 C.calm) s_min2 hg hm boot_min ha hb hs hs2 (by decide) (by decide)
  | max => exact m_b2 (call_max2 C.calm) s_max2 hg hm boot_max ha hb hs hs2 (by decide) (by decide)
theorem blk_ok {N : List Str} {sc scope : Scope} {ts : List Nat} (h : blkC N sc scope ((ts.map fun i => N.getD i "").zip ts) = true) : BlkOk N sc scope ((ts.map fun i => N.getD i "").zip ts) ∧ ((ts.map fun i => N.getD i "").zip ts).map (·.2) = ts :=
  ⟨blkOk_by h, by rw [List.map_snd_zip]; simp⟩
theorem comp_eq {Φ : Fs} {elt : ME} {ts : List Nat} {it : MI} : ME.den Φ (.comp elt ts it) = lcD ts (it.den Φ) (fun _ M => .ok (.bl true) M) (elt.den Φ) := by
  funext ρ M
  have : (fun (x : D) (M : Mst) => match asg (wipE ρ ts) ts x with
    | some ρ => (elt.den Φ ρ M).quiet.bind fun y M => R.ok (some y) M
    | none => .stuck) = stepD ts (fun _ M => .ok (.bl true) M) (elt.den Φ) (wipE ρ ts) := by
    funext x M
    unfold stepD
    cases asg (wipE ρ ts) ts x with
    | none => rfl
    | some ρ => rfl
  unfold lcD
  rw [← this]
  rfl
theorem compIf_eq {Φ : Fs} {elt c : ME} {ts : List Nat} {it : MI} : ME.den Φ (.compIf elt ts it c) = lcD ts (it.den Φ) (c.den Φ) (elt.den Φ) := by
  funext ρ M
  have : (fun (x : D) (M : Mst) => match asg (wipE ρ ts) ts x with
    | some ρ => (c.den Φ ρ M).quiet.bind fun k M => boolOf k M fun k => if k then (elt.den Φ ρ M).quiet.bind fun y M => R.ok (some y) M else .ok none M
    | none => .stuck) = stepD ts (c.den Φ) (elt.den Φ) (wipE ρ ts) := by
    funext x M
    unfold stepD
    cases asg (wipE ρ ts) ts x with
    | none => rfl
    | some ρ => rfl
  unfold lcD
  rw [← this]
  rfl
mutual
theorem okE {Φ : Fs} : ∀ (m : ME) {W : Wd} {XW : L2.WX} {X : Cx} {s : Sc} {f t : Bool} {e : Expr}, CokE W s Φ X XW → chkE m s f t e = true → OkE W XW X f t e (m.den Φ)
  | .non, W, XW, X, s, f, t, e, C, h => by
    unfold chkE at h
    split at h
    · rename_i heq
      exact ok_plain (by rw [heq]; exact m_cst pe_non fun _ _ => rfl) (by rw [heq]; rfl)
    · cases h
  | .bl b, W, XW, X, s, f, t, e, C, h => by
    unfold chkE at h
    split at h
    · rename_i heq
      rw [decide_eq_true_eq] at h
      subst h
      exact ok_plain (by rw [heq]; exact m_cst pe_bl fun _ _ => rfl) (by rw [heq]; rfl)
    · cases h
  | .int i, W, XW, X, s, f, t, e, C, h => by
    unfold chkE at h
    split at h
    · rename_i heq
      rw [decide_eq_true_eq] at h
      subst h
      exact ok_plain (by rw [heq]; exact m_cst pe_int fun _ _ => rfl) (by rw [heq]; rfl)
    · cases h
  | .str x, W, XW, X, s, f, t, e, C, h => by
    unfold chkE at h
    split at h
    · rename_i heq
      rw [decide_eq_true_eq] at h
      subst h
      exact ok_plain (by rw [heq]; exact m_cst pe_str fun _ _ => rfl) (by rw [heq]; rfl)
    · cases h
  | .var i, W, XW, X, s, f, t, e, C, h => by
    unfold chkE at h
    split at h
    · rename_i heq
      exact ok_plain (by rw [heq]; exact m_var (C.slot h)) (by rw [heq]; rfl)
    · cases h
  | .peek i, W, XW, X, s, f, t, e, C, h => by
    unfold chkE at h
    rw [Bool.and_eq_true] at h
    obtain ⟨rfl, h⟩ := h
    split at h
    · rename_i heq
      exact ok_plainB (by rw [heq]; exact m_peek (C.slot h)) (by rw [heq]; rfl)
    · cases h
  | .gl x d, W, XW, X, s, f, t, e, C, h => by
    unfold chkE at h
    split at h
    · rename_i heq
      simp only [Bool.and_eq_true, decide_eq_true_eq, Bool.not_eq_true'] at h
      obtain ⟨⟨⟨rfl, h2⟩, h3⟩, h4⟩ := h
      split at h4
      · rename_i i
        rw [decide_eq_true_eq] at h4
        obtain ⟨u, q1, q2⟩ := C.gls _ _ h4
        exact ok_plain (by rw [heq]; exact m_cst (pe_glob (C.glb h2) q1 q2 h3) fun _ _ => rfl) (by rw [heq]; rfl)
      · cases h4
    · cases h
  | .tup es, W, XW, X, s, f, t, e, C, h => by
    unfold chkE at h
    split at h
    · rename_i ys k p heq
      simp only [Bool.and_eq_true, decide_eq_true_eq] at h
      obtain ⟨h1, h2⟩ := h
      exact ok_plain (by rw [heq]; exact m_tup C.good (okEs es C h2) fun ρ M ds M' q => by rw [len_okEs es h2 _ _ _ _ q]; exact Nat.le_trans h1 (by decide)) (by rw [heq]; rfl)
    · cases h
  | .lst es, W, XW, X, s, f, t, e, C, h => by
    unfold chkE at h
    split at h
    · rename_i ys p heq
      simp only [Bool.and_eq_true, decide_eq_true_eq] at h
      obtain ⟨h1, h2⟩ := h
      exact ok_plain (by rw [heq]; exact m_lst C.good (okEs es C h2) fun ρ M ds M' q => by rw [len_okEs es h2 _ _ _ _ q]; exact Nat.le_trans h1 (by decide)) (by rw [heq]; rfl)
    · cases h
  | .new es, W, XW, X, s, f, t, e, C, h => by
    unfold chkE at h
    split at h
    · rename_i ys p heq
      simp only [Bool.and_eq_true, decide_eq_true_eq] at h
      obtain ⟨h1, h2⟩ := h
      exact ok_plain (by rw [heq]; exact m_new C.good (okEs es C h2) fun ρ M ds M' q => by rw [len_okEs es h2 _ _ _ _ q]; exact Nat.le_trans h1 (by decide)) (by rw [heq]; rfl)
    · cases h
  | .bin op a b, W, XW, X, s, f, t, e, C, h => by
    unfold chkE at h
    split at h
    · rename_i x o y p heq
      simp only [Bool.and_eq_true] at h
      obtain ⟨⟨h1, h2⟩, h3⟩ := h
      obtain ⟨r, q1, q2⟩ := op_ok C h1
      exact ok_plain (by rw [heq]; exact m_op q1 q2 (okE a C h2).val (okE b C h3).val) (by rw [heq]; rfl)
    · cases h
  | .neg a, W, XW, X, s, f, t, e, C, h => by
    unfold chkE at h
    split at h
    · rename_i x p heq
      exact ok_plain (by rw [heq]; exact m_neg (okE a C h).val) (by rw [heq]; rfl)
    · cases h
  | .not a, W, XW, X, s, f, t, e, C, h => by
    unfold chkE at h
    split at h
    · rename_i x p heq
      refine ⟨fun z => ?_, fun z => ?_⟩
      · subst z
        exact PE.unb (by rw [heq]; exact PE.up (m_not (okE a C h).val))
      · subst z
        exact PT.unb (by rw [heq]; exact m_testNot (okE a C h).test)
    · cases h
  | .cmp op a b, W, XW, X, s, f, t, e, C, h => by
    unfold chkE at h
    split at h
    · rename_i x o y p heq
      simp only [Bool.and_eq_true] at h
      obtain ⟨⟨⟨h1, h2⟩, h3⟩, h4⟩ := h
      obtain ⟨r, q1, q2⟩ := co_ok C h1
      refine ⟨fun _ => PE.unb (by rw [heq]; exact PE.up (m_cmp q1 q2 (okE a C h3).val (okE b C h4).val (marks_of h2))), fun _ => PT.unb (by rw [heq]; exact m_testCmp q1 q2 (okE a C h3).val (okE b C h4).val (marks_of h2))⟩
    · cases h
  | .chn op op' a b c, W, XW, X, s, f, t, e, C, h => by
    unfold chkE at h
    split at h
    · rename_i x o o' y z p heq
      simp only [Bool.and_eq_true] at h
      obtain ⟨⟨⟨⟨⟨h1, h2⟩, h3⟩, h4⟩, h5⟩, h6⟩ := h
      obtain ⟨r, q1, q2⟩ := co_ok C h1
      obtain ⟨r', q1', q2'⟩ := co_ok C h2
      refine ⟨fun _ => PE.unb (by rw [heq]; exact PE.up (m_chn q1 q1' q2 q2' (okE a C h4).val (okE b C h5).val (okE c C h6).val (marks_of h3))), fun _ => PT.unb (by rw [heq]; exact m_testChn q1 q1' q2 q2' (okE a C h4).val (okE b C h5).val (okE c C h6).val (marks_of h3))⟩
    · cases h
  | .and a b, W, XW, X, s, f, t, e, C, h => by
    unfold chkE at h
    split at h
    · rename_i x y r p heq
      simp only [Bool.and_eq_true] at h
      obtain ⟨h1, h2⟩ := h
      have k1 := okE a C h1
      have k2 := okE b C h2
      refine ⟨fun z => ?_, fun z => ?_⟩
      · subst z
        exact PE.unb (by rw [heq]; exact m_and k1.val k2.val)
      · subst z
        exact PT.unb (by rw [heq]; exact (m_testAnd k1.test (pw_of k2.test)).pt)
    · cases h
  | .or a b, W, XW, X, s, f, t, e, C, h => by
    unfold chkE at h
    split at h
    · rename_i x y r p heq
      simp only [Bool.and_eq_true] at h
      obtain ⟨h1, h2⟩ := h
      have k1 := okE a C h1
      have k2 := okE b C h2
      refine ⟨fun z => ?_, fun z => ?_⟩
      · subst z
        exact PE.unb (by rw [heq]; exact m_or k1.val k2.val)
      · subst z
        exact PT.unb (by rw [heq]; exact (m_testOr k1.test (pw_of k2.test)).pt)
    · cases h
  | .ite c a b, W, XW, X, s, f, t, e, C, h => by
    unfold chkE at h
    split at h
    · rename_i z x y p heq
      simp only [Bool.and_eq_true, Bool.not_eq_true'] at h
      obtain ⟨⟨⟨rfl, h2⟩, h3⟩, h4⟩ := h
      exact ⟨fun _ => PE.unb (by rw [heq]; exact m_ite (okE c C h2).test (okE a C h3).val (okE b C h4).val), fun z => by cases z⟩
    · cases h
  | .sub a i, W, XW, X, s, f, t, e, C, h => by
    unfold chkE at h
    split at h
    · rename_i x y p heq
      simp only [Bool.and_eq_true] at h
      obtain ⟨⟨h1, h2⟩, h3⟩ := h
      exact ok_plain (by rw [heq]; exact m_sub C.K (okE a C h2).val (okE i C h3).val (plainIx_of h1)) (by rw [heq]; rfl)
    · cases h
  | .slc a lo hi, W, XW, X, s, f, t, e, C, h => by
    unfold chkE at h
    split at h
    · rename_i x l u p p2 heq
      simp only [Bool.and_eq_true] at h
      obtain ⟨⟨h1, h2⟩, h3⟩ := h
      exact ok_plain (by rw [heq]; exact m_slc C.good C.K (okE a C h1).val (okP lo C h2) (okP hi C h3)) (by rw [heq]; rfl)
    · cases h
  | .rev a, W, XW, X, s, f, t, e, C, h => by
    unfold chkE at h
    split at h
    · rename_i heq
      exact ok_plain (by rw [heq]; exact m_revA C.good C.K (okE a C h).val) (by rw [heq]; rfl)
    · cases h
  | .call k es, W, XW, X, s, f, t, e, C, h => by
    unfold chkE at h
    split at h
    · rename_i x p y ys p2 heq
      simp only [Bool.and_eq_true, decide_eq_true_eq, Bool.not_eq_true'] at h
      obtain ⟨⟨⟨⟨h1, h2⟩, h3⟩, h4⟩, h5⟩ := h
      obtain ⟨lv, hr, hf⟩ := C.room
      obtain ⟨fa, fd, ps, F, hm, hk, hb⟩ := hf _ _ _ h1
      exact ok_plain (by
        rw [heq]
        exact m_call F (hr.mono (Nat.le_add_right _ _)) (C.glb h2) hm hk hb C.tk (okEs es C h5) h3 h4 fun ρ M ds M' q => len_okEs es h5 _ _ _ _ q) (by rw [heq]; rfl)
    · cases h
  | .b1 g a, W, XW, X, s, f, t, e, C, h => by
    unfold chkE at h
    split at h
    · rename_i x p y p2 z p3 p4 heq
      simp only [Bool.and_eq_true] at h
      obtain ⟨⟨⟨h1, h2⟩, h3⟩, h4⟩ := h
      obtain ⟨e1, hg, hm⟩ := C.bltn h1
      obtain ⟨e2, hg2, hm2⟩ := C.bltn h2
      obtain ⟨lv, hr, _⟩ := C.room
      exact ok_plain (by rw [heq]; exact m_sset C.good C.K C.calm (by have := hr.un; omega) e1 e2 hg hm hg2 hm2 (okE a C h4).val h3) (by rw [heq]; rfl)
    · rename_i x p y p2 z p3 p4 heq
      simp only [Bool.and_eq_true] at h
      obtain ⟨⟨⟨h1, h2⟩, h3⟩, h4⟩ := h
      obtain ⟨e1, hg, hm⟩ := C.bltn h1
      obtain ⟨e2, hg2, hm2⟩ := C.bltn h2
      exact ok_plain (by rw [heq]; exact m_lset C.K C.calm e1 e2 hg hm hg2 hm2 (okE a C h4).val h3) (by rw [heq]; rfl)
    · cases h
    · cases h
    · rename_i x p y p2 n1 n2 heq
      simp only [Bool.and_eq_true] at h
      obtain ⟨⟨h1, h2⟩, h3⟩ := h
      exact ok_plain (by rw [heq]; exact b1_call C h1 h2 (okE a C h3).val (by intro z; subst z; simp_all) (by intro z; subst z; simp_all)) (by rw [heq]; rfl)
    · cases h
  | .b2 g a b, W, XW, X, s, f, t, e, C, h => by
    unfold chkE at h
    split at h
    · rename_i x p y z p2 heq
      simp only [Bool.and_eq_true] at h
      obtain ⟨⟨⟨⟨h1, h2⟩, h3⟩, h4⟩, h5⟩ := h
      exact ok_plain (by rw [heq]; exact b2_call C h1 h2 h3 (okE a C h4).val (okE b C h5).val) (by rw [heq]; rfl)
    · cases h
  | .isi a ty, W, XW, X, s, f, t, e, C, h => by
    unfold chkE at h
    split at h
    · rename_i x p y z p2 p3 heq
      simp only [Bool.and_eq_true, decide_eq_true_eq] at h
      obtain ⟨⟨⟨⟨h1, h2⟩, h3⟩, h4⟩, h5⟩ := h
      obtain ⟨e1, hg, hm⟩ := C.bltn h1
      exact ok_plain (by rw [heq]; exact m_isi e1 h2 hg hm (C.glb h3) (C.blt _ (h2 ▸ mem_ty ty)) C.K (okE a C h5).val h4) (by rw [heq]; rfl)
    · cases h
  | .index a b, W, XW, X, s, f, t, e, C, h => by
    unfold chkE at h
    split at h
    · rename_i o mm p y q heq
      simp only [Bool.and_eq_true, decide_eq_true_eq] at h
      obtain ⟨⟨⟨⟨⟨rfl, h2⟩, h3⟩, h4⟩, h5⟩, h6⟩ := h
      obtain ⟨lv, hr, _⟩ := C.room
      exact ok_plain (by rw [heq]; exact m_index C.K (by have := hr.un; omega) (okE a C h5).val (okE b C h6).val h4 (base_no h2) h3) (by rw [heq]; rfl)
    · cases h
  | .lrg it, W, XW, X, s, f, t, e, C, h => by
    unfold chkE at h
    split at h
    · rename_i x p y p2 heq
      simp only [Bool.and_eq_true] at h
      obtain ⟨⟨h1, h2⟩, h3⟩ := h
      obtain ⟨e1, hg, hm⟩ := C.bltn h1
      exact ok_plain (by rw [heq]; exact m_lrg C.good C.calm e1 hg hm (okR it C h3) h2) (by rw [heq]; rfl)
    · cases h
  | .trg it, W, XW, X, s, f, t, e, C, h => by
    unfold chkE at h
    split at h
    · rename_i x p y p2 heq
      simp only [Bool.and_eq_true] at h
      obtain ⟨⟨h1, h2⟩, h3⟩ := h
      obtain ⟨e1, hg, hm⟩ := C.bltn h1
      exact ok_plain (by rw [heq]; exact m_trg C.good C.calm e1 hg hm (okR it C h3) h2) (by rw [heq]; rfl)
    · cases h
  | .comp elt ts it, W, XW, X, s, f, t, e, C, h => by
    unfold chkE at h
    split at h
    · rename_i y tg iter scope p heq
      simp only [Bool.and_eq_true, decide_eq_true_eq] at h
      obtain ⟨⟨⟨⟨⟨h1, h2⟩, h3⟩, h4⟩, h5⟩, h6⟩ := h
      obtain ⟨k1, k2⟩ := blk_ok h2
      have nd : X.N.Nodup := by rw [C.NN]; exact C.nd
      exact ok_plain (by
        rw [heq, comp_eq]
        exact m_ofF (m_lc C.good C.calm nd (okI it C h5) (by rw [C.NN, C.scp]; exact k1) k2 (fun sh H Ca cl fp => g_ok (C.blk scope sh H Ca cl fp) h3) (fun sh H Ca cl fp => m_yes) (fun sh H Ca cl fp => (okE elt (C.blk scope sh H Ca cl fp) h6).val) (fold_no h4)) lcD_lst) (by rw [heq]; rfl)
    · cases h
  | .compIf elt ts it c, W, XW, X, s, f, t, e, C, h => by
    unfold chkE at h
    split at h
    · rename_i y tg iter z scope p heq
      simp only [Bool.and_eq_true, decide_eq_true_eq] at h
      obtain ⟨⟨⟨⟨⟨⟨h1, h2⟩, h3⟩, h4⟩, h5⟩, h7⟩, h6⟩ := h
      obtain ⟨k1, k2⟩ := blk_ok h2
      have nd : X.N.Nodup := by rw [C.NN]; exact C.nd
      exact ok_plain (by
        rw [heq, compIf_eq]
        exact m_ofF (m_lc C.good C.calm nd (okI it C h5) (by rw [C.NN, C.scp]; exact k1) k2 (fun sh H Ca cl fp => g_ok (C.blk scope sh H Ca cl fp) h3) (fun sh H Ca cl fp => pts_one (okE c (C.blk scope sh H Ca cl fp) h7).test) (fun sh H Ca cl fp => (okE elt (C.blk scope sh H Ca cl fp) h6).val) (fold_no h4)) lcD_lst) (by rw [heq]; rfl)
    · cases h
  | .comp2 _ _ _ _ _, W, XW, X, s, f, t, e, C, h => by cases h
  | .dget i k, W, XW, X, s, f, t, e, C, h => by
    unfold chkE at h
    split at h
    · rename_i x p y pos heq
      simp only [Bool.and_eq_true] at h
      obtain ⟨⟨h1, h2⟩, h3⟩ := h
      obtain ⟨lv, hr, _⟩ := C.room
      exact ok_plain (by rw [heq]; exact m_dget (by have := hr.un; omega) (C.slot h1) (okE k C h3).val (plainIx_of h2)) (by rw [heq]; rfl)
    · cases h
  | .dgetd i k d, W, XW, X, s, f, t, e, C, h => by
    unfold chkE at h
    split at h
    · rename_i heq
      simp only [Bool.and_eq_true, decide_eq_true_eq] at h
      obtain ⟨⟨⟨⟨⟨⟨rfl, h1⟩, h2⟩, h3⟩, h4⟩, h5⟩, h6⟩ := h
      obtain ⟨lv, hr, _⟩ := C.room
      exact ok_plain (by rw [heq]; exact m_dgetd (by have := hr.un; omega) (C.slot h1) (okE k C h5).val (okE d C h6).val (m2_of h3 h4 (base_no rfl) h2)) (by rw [heq]; rfl)
    · cases h
  | .dn a, W, XW, X, s, f, t, e, C, h => by
    unfold chkE at h
    rw [Bool.and_eq_true, Bool.not_eq_true'] at h
    obtain ⟨rfl, h⟩ := h
    rw [Bool.and_eq_true] at h
    exact ⟨fun _ => m_dn (okE a C h.2).val, fun z => by cases z⟩
  | .ctup a, W, XW, X, s, f, t, e, C, h => by
    unfold chkE at h
    split at h
    · rename_i heq
      simp only [Bool.and_eq_true] at h
      obtain ⟨⟨h1, h2⟩, h3⟩ := h
      obtain ⟨rfl, hg, hm⟩ := C.bltn h1
      exact ok_plain (by rw [heq]; exact m_ctup C.good C.K rfl hg hm (okE a C h3).val h2) (by rw [heq]; rfl)
    · cases h
  | .tix a b, W, XW, X, s, f, t, e, C, h => by
    unfold chkE at h
    split at h
    · rename_i heq
      simp only [Bool.and_eq_true, decide_eq_true_eq] at h
      obtain ⟨⟨⟨⟨⟨rfl, h2⟩, h3⟩, h4⟩, h5⟩, h6⟩ := h
      exact ok_plain (by rw [heq]; exact m_tix (okE a C h5).val (okE b C h6).val h4 (base_no h2) h3) (by rw [heq]; rfl)
    · cases h
  | .told k m, W, XW, X, s, f, t, e, C, h => by
    unfold chkE at h
    split at h
    · rename_i g p params y scope p2 p3 heq
      simp only [Bool.and_eq_true, decide_eq_true_eq] at h
      obtain ⟨⟨⟨⟨⟨h1, rfl⟩, h3⟩, h4⟩, h5⟩, h6⟩ := h
      obtain ⟨htab, cl, CS, ft, gg, c, P, TD, hca, TB, hcode, hmT, hu⟩ := C.tl h1
      obtain ⟨lv, hr, hf⟩ := C.room
      have hup : s.up = 3 := by
        unfold Sc.up
        rw [h1]
        rfl
      rw [hup] at hr
      have hL : LamX.LamS X.env.scope scope := LamX.lamS_by (by rw [C.scp]; exact h5)
      have hpar : params = ⟨[], [], none, [], [], none, []⟩ := by
        unfold noArgs at h4
        split at h4
        · rfl
        · cases h4
      subst hpar
      exact ok_plain (by
        rw [heq]
        exact m_told C.good htab hca (lam_call (k := lv) (T := W.T) TD TB hcode hmT hu hr hL rfl (C.glb h3) (fun _ _ _ _ _ => rfl) fun A outer sh H E f c' hr2 => (okE m (C.lam (scope := scope) hr2 hf) h6).val)) (by rw [heq]; rfl)
    · cases h
theorem okP {Φ : Fs} : ∀ (m : MP) {W : Wd} {XW : L2.WX} {X : Cx} {s : Sc} {e : Option Expr}, CokE W s Φ X XW → chkP m s e = true → PO X e (toO W XW (m.den Φ))
  | .no, W, XW, X, s, e, C, h => by
    cases e with
    | none => exact m_no
    | some e => cases h
  | .some a, W, XW, X, s, e, C, h => by
    cases e with
    | none => cases h
    | some e => exact m_some (okE a C h).val
theorem okR {Φ : Fs} : ∀ (m : MI) {W : Wd} {XW : L2.WX} {X : Cx} {s : Sc} {e : Expr}, CokE W s Φ X XW → chkR m s e = true → PRg X e (tRgI W XW (m.den Φ))
  | .rng a, W, XW, X, s, e, C, h => by
    unfold chkR at h
    split at h
    · rename_i heq
      cases heq
      rename_i x p y p2
      simp only [Bool.and_eq_true] at h
      obtain ⟨⟨h1, h2⟩, h3⟩ := h
      obtain ⟨rfl, hg, hm⟩ := C.bltn h1
      exact m_prg1 hg hm (okE a C h3).val h2
    · rename_i heq
      cases heq
    · cases h
  | .rng2 a b, W, XW, X, s, e, C, h => by
    unfold chkR at h
    split at h
    · rename_i heq
      cases heq
    · rename_i heq
      cases heq
      rename_i x p y z p2
      simp only [Bool.and_eq_true] at h
      obtain ⟨⟨⟨⟨h1, h2⟩, h3⟩, h4⟩, h5⟩ := h
      obtain ⟨rfl, hg, hm⟩ := C.bltn h1
      exact m_prg2 hg hm (okE a C h4).val (okE b C h5).val h2 h3
    · cases h
  | .seq _, W, XW, X, s, e, C, h => by cases h
  | .rng3 _ _ _, W, XW, X, s, e, C, h => by cases h
  | .zip _ _, W, XW, X, s, e, C, h => by cases h
  | .enum _, W, XW, X, s, e, C, h => by cases h
  | .txt _, W, XW, X, s, e, C, h => by cases h
  | .enumT _, W, XW, X, s, e, C, h => by cases h
  | .keys _, W, XW, X, s, e, C, h => by cases h
theorem okI {Φ : Fs} : ∀ (m : MI) {W : Wd} {XW : L2.WX} {X : Cx} {s : Sc} {f : Bool} {tg e : Expr}, CokE W s Φ X XW → chkI m s f tg e = true → PI X tg e (tI W XW f (m.den Φ))
  | .seq a, W, XW, X, s, f, tg, e, C, h => m_seq C.K (okE a C h).val
  | .rng a, W, XW, X, s, f, tg, e, C, h => by
    unfold chkI at h
    split at h
    · simp only [Bool.and_eq_true] at h
      obtain ⟨⟨h1, h2⟩, h3⟩ := h
      obtain ⟨rfl, hg, hm⟩ := C.bltn h1
      exact m_rng hg hm (okE a C h3).val h2
    · cases h
  | .rng2 a b, W, XW, X, s, f, tg, e, C, h => by
    unfold chkI at h
    split at h
    · simp only [Bool.and_eq_true] at h
      obtain ⟨⟨⟨⟨h1, h2⟩, h3⟩, h4⟩, h5⟩ := h
      obtain ⟨rfl, hg, hm⟩ := C.bltn h1
      exact m_rng2 hg hm (okE a C h4).val (okE b C h5).val h2 h3
    · cases h
  | .rng3 a b c, W, XW, X, s, f, tg, e, C, h => by
    unfold chkI at h
    split at h
    · simp only [Bool.and_eq_true] at h
      obtain ⟨⟨⟨⟨⟨⟨h1, h2⟩, h3⟩, h4⟩, h5⟩, h6⟩, h7⟩ := h
      obtain ⟨rfl, hg, hm⟩ := C.bltn h1
      exact m_rng3 hg hm (okE a C h5).val (okE b C h6).val (okE c C h7).val h2 h3 h4
    · cases h
  | .zip a b, W, XW, X, s, f, tg, e, C, h => by
    unfold chkI at h
    split at h
    · simp only [Bool.and_eq_true] at h
      obtain ⟨⟨⟨⟨h1, h2⟩, h3⟩, h4⟩, h5⟩ := h
      obtain ⟨rfl, hg, hm⟩ := C.bltn h1
      exact m_zip C.good C.K hg hm (okE a C h4).val (okE b C h5).val h2 h3
    · cases h
  | .enum a, W, XW, X, s, f, tg, e, C, h => by
    unfold chkI at h
    split at h
    · simp only [Bool.and_eq_true] at h
      obtain ⟨⟨h1, h2⟩, h3⟩ := h
      obtain ⟨rfl, hg, hm⟩ := C.bltn h1
      exact m_enum C.good C.K hg hm (okE a C h3).val h2
    · cases h
  | .txt a, W, XW, X, s, f, tg, e, C, h => m_txt (okE a C h).val
  | .keys i, W, XW, X, s, f, tg, e, C, h => by
    unfold chkI at h
    split at h
    · exact m_keys (C.slot h)
    · cases h
  | .enumT _, W, XW, X, s, f, tg, e, C, h => by cases h
theorem okEs {Φ : Fs} : ∀ (m : MEs) {W : Wd} {XW : L2.WX} {X : Cx} {s : Sc} {es : List Expr}, CokE W s Φ X XW → chkEs m s es = true → PA X es (tL W XW (m.den Φ))
  | .nil, W, XW, X, s, es, C, h => by
    cases es with
    | nil => exact m_nil
    | cons y ys => cases h
  | .cons a r, W, XW, X, s, es, C, h => by
    cases es with
    | nil => cases h
    | cons y ys =>
      simp only [chkEs, Bool.and_eq_true] at h
      obtain ⟨⟨h1, h2⟩, h3⟩ := h
      exact m_cons (okE a C h2).val (okEs r C h3) h1
end
end Mi
end
section
set_option Elab.async false
set_option autoImplicit false
set_option linter.all false
set_option maxRecDepth 100000
set_option maxHeartbeats 8000000
namespace Mi
open PySem PySem.Spec PyProof.Rows L2
/-! ### the checker of statements -/
def swB (s : Sc) (scope : Scope) (t : Str) (l l' : Nat) : Bool := s.sc.kind == .function && s.sc.names.lookup t == some .local && l == l' && !(scope.names.any fun (n, k) => n == t && (k == .local || k == .cell))
def oneComp : Expr → Bool
  | .ListComp _ [⟨_, _, _, 0⟩] _ _ => true
  | e => noComp e
/-- the forms that make a new list -/
def chkF (m : ME) (s : Sc) (e : Expr) : Bool := (match m, e with
  | .lst _, .List _ _ => true
  | .bin .add _ _, .BinOp _ .Add _ _ => true
  | .comp _ _ _, .ListComp _ _ _ _ => true
  | .compIf _ _ _ _, .ListComp _ _ _ _ => true
  | _, _ => false) && chkE m s false false e
def isL : ME → Bool
  | .lst _ => true
  | .comp _ _ _ => true
  | .compIf _ _ _ _ => true
  | _ => false
def chkO : List Bool → MEs → Sc → List Expr → Bool
  | [], .nil, _, [] => true
  | o :: os, .cons e es, s, y :: ys => noStar y && (if o then isL e && chkF e s y else chkE e s false false y) && chkO os es s ys
  | _, _, _, _ => false
def Sc.loc (s : Sc) (x : Str) : Bool := s.sc.names.lookup x == some .local
def purO {α : Type} : Sem α → Option α
  | .pure a => some a
  | _ => none
def mkE (sc : Scope) : Env := { scope := sc, locals := 0, globals := 0, cells := [] }
def swapNo (s : Sc) (tg y : Expr) : Bool := match purO (swappedStores [tg] y (mkE s.sc)) with
  | some none => true
  | _ => false
def swapYes (s : Sc) (tg y : Expr) (ns : List Str) : Bool := match purO (swappedStores [tg] y (mkE s.sc)) with
  | some (some ms) => decide (ms = ns)
  | _ => false
/-- names at once, by a tuple -/
def chkPT (ts : List Nat) (os : List Bool) (s : Sc) (st : Stmt) (f : List Expr → Bool) : Bool := (match st with
  | .Assign [.Tuple xs kt pt] (.Tuple ys k2 p2) _ => chkG s ts (.Tuple xs kt pt) && swapNo s (.Tuple xs kt pt) (.Tuple ys k2 p2) && decide (os.length = ts.length) && decide (os.length ≤ 64) && f ys
  | _ => false)
mutual
def chkS : MS → Sc → Stmt → Bool
  | .skip, s, st => (match st with
    | .Pass _ => true
    | _ => false)
  | .ex e, s, st => (match st with
    | .Expr y _ => noComp y && chkE e s true false y
    | _ => false)
  | .set i e, s, st => (match st with
    | .Assign [.Name x _] y _ => s.setOk i x && oneComp y && decide (s.sc.kind = .function) && chkE e s false false y
    | _ => false)
  | .own i e, s, st => (match st with
    | .Assign [.Name x _] y _ => s.setOk i x && oneComp y && decide (s.sc.kind = .function) && chkF e s y
    | _ => false)
  | .par ts os es, s, st => chkPT ts os s st (chkO os es s) || (match ts, st with
    | [i, j], .Assign [.Tuple [.Name x px, .Name y py] kt pt] (.Tuple [a, b] k2 p2) _ => s.loc x && s.loc y && decide (i ≠ j) && decide (os.length = 2) && s.setOk i x && s.setOk j y && swapYes s (.Tuple [.Name x px, .Name y py] kt pt) (.Tuple [a, b] k2 p2) [x, y] && chkO os es s [a, b]
    | [i, j, l], .Assign [.Tuple [.Name x px, .Name y py, .Name z pz] kt pt] (.Tuple [a, b, c] k2 p2) _ => s.loc x && s.loc y && s.loc z && decide (i ≠ j) && decide (i ≠ l) && decide (j ≠ l) && decide (os.length = 3) && s.setOk i x && s.setOk j y && s.setOk l z && swapYes s (.Tuple [.Name x px, .Name y py, .Name z pz] kt pt) (.Tuple [a, b, c] k2 p2) [x, y, z] && chkO os es s [a, b, c]
    | _, _ => false)
  | .asT ts e, s, st => (match st with
    | .Assign [tg] y _ => chkG s ts tg && noComp y && swapNo s tg y && chkE e s false false y
    | _ => false)
  | .app i e, s, st => (match st with
    | .Expr (.Call (.Attribute (.Name x _) a p) [y] [] q) _ => decide (a = "append") && s.slot i x && (p.endLine == q.line) && noStar y && chkE e s false false y
    | _ => false)
  | .pop i, s, st => (match st with
    | .Expr (.Call (.Attribute (.Name x _) a p) [] [] q) _ => decide (a = "pop") && s.slot i x && (p.endLine == q.line)
    | _ => false)
  | .si i k e, s, st => (match st with
    | .Assign [.Subscript (.Name x _) z _] y _ => s.slot i x && noComp y && noSlice z && chkE k s true false z && chkE e s false false y
    | _ => false)
  | .ri a k e, s, st => (match st with
    | .Assign [.Subscript o z _] y _ => noComp y && noSlice z && chkE a s true false o && chkE k s true false z && chkE e s false false y
    | _ => false)
  | .frz _, _, _ => false
  | .dnew i t, s, st => (match st with
    | .Assign [.Name x _] (.Dict [] [] _) _ => s.setOk i x
    | _ => false)
  | .dset i k e, s, st => (match st with
    | .Assign [.Subscript (.Name x _) z _] y _ => s.slot i x && noComp y && noSlice z && chkE k s true false z && chkE e s false false y
    | _ => false)
  | .mv i j, s, st => (match st with
    | .Assign [.Name x _] (.Name y _) _ => s.setOk i x && s.slot j y
    | _ => false)
  | .dsg i k e, s, st => (match st with
    | .Assign [.Name x _] (.Dict [some y] [z] _) _ => s.setOk i x && chkE k s true false y && chkE e s false false z
    | _ => false)
  | .pard b i j e, s, st => (match b, st with
    | false, .Assign [.Tuple [.Name x px, .Name y py] kt pt] (.Tuple [a, .Dict [] [] pd] k2 p2) _ => s.loc x && s.loc y && decide (i ≠ j) && s.setOk i x && s.setOk j y && swapYes s (.Tuple [.Name x px, .Name y py] kt pt) (.Tuple [a, .Dict [] [] pd] k2 p2) [x, y] && noStar a && chkE e s false false a
    | true, .Assign [.Tuple [.Name y py, .Name x px] kt pt] (.Tuple [.Dict [] [] pd, a] k2 p2) _ => s.loc x && s.loc y && decide (i ≠ j) && s.setOk i x && s.setOk j y && swapYes s (.Tuple [.Name y py, .Name x px] kt pt) (.Tuple [.Dict [] [] pd, a] k2 p2) [y, x] && noStar a && chkE e s false false a
    | _, _ => false)
  | .cond c a b, s, st => (match st with
    | .If z p q _ => chkE c s true true z && chkSs a s p && chkSs b s q
    | _ => false)
  | .loop t it b, s, st => (match st with
    | .For tg iter body [] _ => chkG s t tg && noSet iter && chkI it s false tg iter && chkSs b s body
    | _ => false)
  | .whl n c b, s, st => (match st with
    | .While z body [] _ => chkE c s true true z && chkSs b s body
    | _ => false)
  | .ret e, s, st => (match st with
    | .Return (some y) _ => chkE e s false false y
    | _ => false)
  | .retN, s, st => (match st with
    | .Return none _ => true
    | _ => false)
  | .rai k, s, st => (match st with
    | .Raise (some (.Call (.Name x _) [.Constant (.str _) _ _] [] _)) none _ => decide ((x, k) ∈ s.cls) && s.glb x && !(x == ("__debug__" : Str))
    | _ => false)
def chkSs : List MS → Sc → List Stmt → Bool
  | [], s, sts => (match sts with
    | [] => true
    | _ => false)
  | m :: ms, s, sts => (match m with
    | .frz i => chkSs ms s sts
    | _ => (match sts with
      | st :: r => chkS m s st && chkSs ms s r
      | [] => false))
end
structure CokS (W : Wd) (s : Sc) (Φ : Fs) (X : Cx) (XW : L2.WX) : Prop extends CokE W s Φ X XW where
  po : PassesOwn (model X.prog X.w) X.A X.env X.xe
  rai : ∀ x k, (x, k) ∈ s.cls → Gl X x → (x == ("__debug__" : Str)) = false → ∀ m j p p2 pos, L2N.PMk X (.Call (.Name x p) [.Constant (.str m) j p2] [] pos) (fun _ H Q => Q (.ref (W.ca k)) none H)
section
variable {W : Wd} {XW : L2.WX} {Φ : Fs} {X : Cx} {s : Sc} {f t : Bool} {e tg : Expr} {m : ME}
def LcOk (W : Wd) (XW : L2.WX) (X : Cx) (d : En → Mst → R D) (elt tg iter : Expr) (ifs : List Expr) (scope : Scope) : Prop := ∃ (own : List (Str × Nat)) (wi : TI) (g : TG) (tt : TT) (te : TE), PI X tg iter wi ∧ BlkOk X.N X.env.scope scope own ∧
  (∀ (s : Shared) (H : Hp) (C : Addr) (cl : List (Str × Addr)) (fp : List Addr), PG (X.blk s H scope (compEnvC scope cl C X.env) fp) tg g) ∧
  (∀ (s : Shared) (H : Hp) (C : Addr) (cl : List (Str × Addr)) (fp : List Addr), PTs (X.blk s H scope (compEnvC scope cl C X.env) fp) ifs tt) ∧
  (∀ (s : Shared) (H : Hp) (C : Addr) (cl : List (Str × Addr)) (fp : List Addr), PE (X.blk s H scope (compEnvC scope cl C X.env) fp) elt te) ∧ (∀ x, foldedSetIterable iter X.env x = pure x) ∧
  ∀ σ H Q, tF W XW d σ H Q → tLc wi g tt te (own.map (·.2)) σ H Q
theorem lc_ok (C : CokE W s Φ X XW) {elt iter : Expr} {ifs : List Expr} {scope : Scope} {p : Pos} (h : chkE m s f t (.ListComp elt [⟨tg, iter, ifs, 0⟩] scope p) = true) : LcOk W XW X (m.den Φ) elt tg iter ifs scope ∧ ∀ ρ M d M', m.den Φ ρ M = .ok d M' → ∃ ds, d = .lst ds := by
  cases m with
  | comp y ts it =>
    unfold chkE at h
    cases ifs with
    | nil =>
      simp only [unb, Bool.and_eq_true, decide_eq_true_eq] at h
      obtain ⟨⟨⟨⟨⟨h1, h2⟩, h3⟩, h4⟩, h5⟩, h6⟩ := h
      obtain ⟨k1, k2⟩ := blk_ok h2
      refine ⟨⟨_, _, _, _, _, okI it C h5, by rw [C.NN, C.scp]; exact k1, fun sh H Ca cl fp => g_ok (C.blk scope sh H Ca cl fp) h3, fun sh H Ca cl fp => m_yes (W := W) (XW := WXF), fun sh H Ca cl fp => (okE y (C.blk scope sh H Ca cl fp) h6).val, fold_no h4, fun σ H Q hq => ?_⟩, ?_⟩
      · rw [k2]
        rw [comp_eq] at hq
        exact lc_impF C.good hq
      · rw [comp_eq]
        exact lcD_lst
    | cons z zs => cases h
  | compIf y ts it c =>
    unfold chkE at h
    cases ifs with
    | nil => cases h
    | cons z zs =>
      cases zs with
      | cons _ _ => cases h
      | nil =>
        simp only [unb, Bool.and_eq_true, decide_eq_true_eq] at h
        obtain ⟨⟨⟨⟨⟨⟨h1, h2⟩, h3⟩, h4⟩, h5⟩, h7⟩, h6⟩ := h
        obtain ⟨k1, k2⟩ := blk_ok h2
        refine ⟨⟨_, _, _, _, _, okI it C h5, by rw [C.NN, C.scp]; exact k1, fun sh H Ca cl fp => g_ok (C.blk scope sh H Ca cl fp) h3, fun sh H Ca cl fp => pts_one (okE c (C.blk scope sh H Ca cl fp) h7).test, fun sh H Ca cl fp => (okE y (C.blk scope sh H Ca cl fp) h6).val, fold_no h4, fun σ H Q hq => ?_⟩, ?_⟩
        · rw [k2]
          rw [compIf_eq] at hq
          exact lc_impF C.good hq
        · rw [compIf_eq]
          exact lcD_lst
  | b1 g a =>
    unfold chkE at h
    cases g <;> cases h
  | peek i =>
    unfold chkE at h
    cases f <;> cases h
  | dn i =>
    unfold chkE at h
    cases t <;> cases h
  | _ => cases h
theorem sw_eq {elt iter : Expr} {ifs : List Expr} {scope : Scope} {p py : Pos} {x : Str} {l : Nat} (hs : X.env.scope = s.sc) (hk : s.sc.kind = .function) : swapsWith (.ListComp elt [⟨tg, iter, ifs, 0⟩] scope p) (some (.Name x py)) l X.env = pure (swB s scope x py.line p.line) := by
  have ky : X.env.kindOf x = s.sc.names.lookup x := by
    show X.env.scope.names.lookup x = _
    rw [hs]
  have hb : X.env.blockKind = .function := by
    unfold Env.blockKind
    rw [hs, hk]
    rfl
  unfold swapsWith swB
  simp only [hb, ky, hk, Expr.pos]
theorem name_set (C : CokE W s Φ X XW) {i : Nat} {x : Str} {p : Pos} (h : s.setOk i x = true) : X.N.Nodup ∧ X.N[i]? = some x ∧ L2.Loc X.env.scope x ∧ (X.fn x = true ∨ X.env.scope.names.lookup x = some .local) := by
  refine ⟨by rw [C.NN]; exact C.nd, C.set_ok h⟩
/-- name = value, also where the value is a comprehension -/
theorem set_lc (C : CokE W s Φ X XW) {d : En → Mst → R D} {elt iter : Expr} {ifs : List Expr} {scope : Scope} {p px pos : Pos} {i : Nat} {x : Str} (L : LcOk W XW X d elt tg iter ifs scope) (h : s.setOk i x = true) (hk : s.sc.kind = .function) :
    ∃ te, PS X (.Assign [.Name x px] (.ListComp elt [⟨tg, iter, ifs, 0⟩] scope p) pos) (tAsg te (gName i)) ∧ ∀ σ H Q, tF W XW d σ H Q → te σ H Q := by
  obtain ⟨own, wi, g, tt, te, q1, q2, q3, q4, q5, q6, q7⟩ := L
  obtain ⟨n1, n2, n3, n4⟩ := name_set (p := px) C h
  have sw := sw_eq (tg := tg) (elt := elt) (iter := iter) (ifs := ifs) (scope := scope) (p := p) (py := px) (x := x) (l := pos.line) C.scp hk
  cases hb : swB s scope x px.line p.line with
  | true =>
    rw [hb] at sw
    have hl : X.env.scope.names.lookup x = some .local := by
      unfold swB at hb
      simp only [Bool.and_eq_true, beq_iff_eq] at hb
      rw [C.scp]
      exact hb.1.1.2
    exact ⟨_, ps_setLc C.calm n1 n2 hl sw q1 q2 q3 q4 q5 q6, q7⟩
  | false =>
    rw [hb] at sw
    exact ⟨_, ps_set n1 n2 n3 (pe_lc C.calm n1 q1 q2 q3 q4 q5 q6) sw n4, q7⟩
theorem set_hp (C : CokE W s Φ X XW) {i : Nat} {x : Str} {y : Expr} {px pos : Pos} (h : s.setOk i x = true) (hk : s.sc.kind = .function) (h1 : oneComp y = true) (h2 : chkE m s false false y = true) :
    ∃ te, PS X (.Assign [.Name x px] y pos) (tAsg te (gName i)) ∧ ∀ σ H Q, tE W XW false (m.den Φ) σ H Q → te σ H Q := by
  unfold oneComp at h1
  split at h1
  · obtain ⟨L, hl⟩ := lc_ok C h2
    obtain ⟨te, q1, q2⟩ := set_lc C L h hk
    exact ⟨te, q1, fun σ H Q hq => q2 _ _ _ (tF_E hl hq)⟩
  · obtain ⟨n1, n2, n3, n4⟩ := name_set (p := px) C h
    exact ⟨_, ps_set n1 n2 n3 (okE m C h2).val (sw_of h1) n4, fun _ _ _ hq => hq⟩
theorem okF (C : CokE W s Φ X XW) {y : Expr} (h : chkF m s y = true) (hc : oneComp y = true) : PE X y (tF W XW (m.den Φ)) := by
  unfold chkF at h
  rw [Bool.and_eq_true] at h
  obtain ⟨h1, h2⟩ := h
  split at h1
  · unfold chkE at h2
    simp only [unb, Bool.and_eq_true, decide_eq_true_eq] at h2
    exact m_lstF C.good (okEs _ C h2.2) fun ρ M ds M' q => by rw [len_okEs _ h2.2 _ _ _ _ q]; exact Nat.le_trans h2.1 (by decide)
  · unfold chkE at h2
    simp only [unb, Bool.and_eq_true] at h2
    exact m_addF C.good C.K (okE _ C h2.1.2).val (okE _ C h2.2).val
  · unfold oneComp at hc
    split at hc
    · rename_i heq
      cases heq
      obtain ⟨⟨own, wi, g, tt, te, q1, q2, q3, q4, q5, q6, q7⟩, hl⟩ := lc_ok C h2
      exact PE.imp (pe_lc C.calm (by rw [C.NN]; exact C.nd) q1 q2 q3 q4 q5 q6) q7
    · cases hc
  · unfold oneComp at hc
    split at hc
    · rename_i heq
      cases heq
      obtain ⟨⟨own, wi, g, tt, te, q1, q2, q3, q4, q5, q6, q7⟩, hl⟩ := lc_ok C h2
      exact PE.imp (pe_lc C.calm (by rw [C.NN]; exact C.nd) q1 q2 q3 q4 q5 q6) q7
    · cases hc
  · cases h1
theorem own_hp (C : CokE W s Φ X XW) {i : Nat} {x : Str} {y : Expr} {px pos : Pos} (h : s.setOk i x = true) (hk : s.sc.kind = .function) (h1 : oneComp y = true) (h2 : chkF m s y = true) :
    ∃ te, PS X (.Assign [.Name x px] y pos) (tAsg te (gName i)) ∧ ∀ σ H Q, tF W XW (m.den Φ) σ H Q → te σ H Q := by
  have h0 := h1
  unfold oneComp at h1
  split at h1
  · have h3 := h2
    unfold chkF at h3
    rw [Bool.and_eq_true] at h3
    obtain ⟨L, hl⟩ := lc_ok C h3.2
    exact set_lc C L h hk
  · obtain ⟨n1, n2, n3, n4⟩ := name_set (p := px) C h
    exact ⟨_, ps_set n1 n2 n3 (okF C h2 h0) (sw_of h1) n4, fun _ _ _ hq => hq⟩
end
end Mi
end
section
set_option Elab.async false
set_option autoImplicit false
set_option linter.all false
set_option maxRecDepth 100000
set_option maxHeartbeats 8000000
namespace Mi
open PySem PySem.Spec PyProof.Rows L2
theorem purO_eq {α : Type} {x : Sem α} {a : α} (h : purO x = some a) : x = pure a := by
  cases x <;> first | (cases h; rfl) | cases h
theorem swapped_env (ts : List Expr) (y : Expr) (env : Env) : swappedStores ts y env = swappedStores ts y (mkE env.scope) := rfl
section
variable {W : Wd} {XW : L2.WX} {Φ : Fs} {X : Cx} {s : Sc} {f t : Bool} {e tg : Expr} {m : ME}
theorem swapNo_ok (hs : X.env.scope = s.sc) {y : Expr} (h : swapNo s tg y = true) : swappedStores [tg] y X.env = pure none := by
  unfold swapNo at h
  split at h
  · rename_i heq
    rw [swapped_env, hs]
    exact purO_eq heq
  · cases h
theorem swapYes_ok (hs : X.env.scope = s.sc) {y : Expr} {ns : List Str} (h : swapYes s tg y ns = true) : swappedStores [tg] y X.env = pure (some ns) := by
  unfold swapYes at h
  split at h
  · rename_i heq
    rw [decide_eq_true_eq] at h
    subst h
    rw [swapped_env, hs]
    exact purO_eq heq
  · cases h
theorem isL_lst {m : ME} (h : isL m = true) {Φ : Fs} : ∀ ρ M d M', m.den Φ ρ M = .ok d M' → ∃ ds, d = .lst ds := by
  cases m with
  | lst es =>
    intro ρ M d M' e
    simp only [ME.den] at e
    obtain ⟨x, M1, e1, e⟩ := bind_ok e
    cases e
    exact ⟨_, rfl⟩
  | comp a b c =>
    rw [comp_eq]
    exact lcD_lst
  | compIf a b c d =>
    rw [compIf_eq]
    exact lcD_lst
  | _ => cases h
theorem okO (C : CokE W s Φ X XW) : ∀ (os : List Bool) (m : MEs) {es : List Expr}, chkO os m s es = true → PA X es (tO W XW os (m.den Φ))
  | [], m, es, h => by
    cases m with
    | nil =>
      cases es with
      | nil => exact m_nilO
      | cons y ys => cases h
    | cons a r => cases h
  | o :: os, m, es, h => by
    cases m with
    | nil => cases h
    | cons a r =>
      cases es with
      | nil => cases h
      | cons y ys =>
        unfold chkO at h
        simp only [Bool.and_eq_true] at h
        obtain ⟨⟨h1, h2⟩, h3⟩ := h
        have k := okO C os r h3
        cases o with
        | false =>
          simp only [Bool.false_eq_true, if_false] at h2
          exact m_consV (okE a C h2).val k h1
        | true =>
          simp only [if_true, Bool.and_eq_true] at h2
          refine m_consF (okF C h2.2 ?_) (isL_lst h2.1) k h1
          have h4 := h2.2
          unfold chkF at h4
          rw [Bool.and_eq_true] at h4
          obtain ⟨h4, h5⟩ := h4
          split at h4
          · rfl
          · rfl
          · rename_i elt ts it y2 gs sc p
            unfold oneComp
            split
            · rfl
            · rename_i nn
              unfold chkE at h5
              simp only [unb] at h5
              split at h5
              · rename_i heq
                cases heq
                exact absurd rfl (nn _ _ _ _ _ _)
              · cases h5
          · rename_i elt ts it c y2 gs sc p
            unfold oneComp
            split
            · rfl
            · rename_i nn
              unfold chkE at h5
              simp only [unb] at h5
              split at h5
              · rename_i heq
                cases heq
                exact absurd rfl (nn _ _ _ _ _ _)
              · cases h5
          · cases h4
end
end Mi
end
section
set_option Elab.async false
set_option autoImplicit false
set_option linter.all false
set_option maxRecDepth 100000
set_option maxHeartbeats 8000000
namespace Mi
open PySem PySem.Spec PyProof.Rows L2
theorem loc_ok {W : Wd} {XW : L2.WX} {Φ : Fs} {X : Cx} {s : Sc} (C : CokE W s Φ X XW) {x : Str} (h : s.loc x = true) : X.env.scope.names.lookup x = some .local := by
  rw [C.scp]
  exact eq_of_beq h
mutual
theorem okS {Φ : Fs} : ∀ (m : MS) {W : Wd} {XW : L2.WX} {X : Cx} {s : Sc} {st : Stmt}, CokS W s Φ X XW → chkS m s st = true → PS X st (tS W XW (m.den Φ))
  | .skip, W, XW, X, s, st, C, h => by
    unfold chkS at h
    split at h
    · exact s_pass
    · cases h
  | .ex e, W, XW, X, s, st, C, h => by
    unfold chkS at h
    split at h
    · simp only [Bool.and_eq_true] at h
      exact s_ex (okE e C.toCokE h.2).val h.1
    · cases h
  | .set i e, W, XW, X, s, st, C, h => by
    unfold chkS at h
    split at h
    · simp only [Bool.and_eq_true, decide_eq_true_eq] at h
      obtain ⟨⟨⟨h1, h2⟩, h3⟩, h4⟩ := h
      obtain ⟨te, q1, q2⟩ := set_hp C.toCokE h1 h3 h2 h4
      exact s_set q1 q2
    · cases h
  | .own i e, W, XW, X, s, st, C, h => by
    unfold chkS at h
    split at h
    · simp only [Bool.and_eq_true, decide_eq_true_eq] at h
      obtain ⟨⟨⟨h1, h2⟩, h3⟩, h4⟩ := h
      obtain ⟨te, q1, q2⟩ := own_hp C.toCokE h1 h3 h2 h4
      exact s_own q1 q2
    · cases h
  | .par ts os es, W, XW, X, s, st, C, h => by
    unfold chkS at h
    rw [Bool.or_eq_true] at h
    rcases h with h | h
    · unfold chkPT at h
      split at h
      · simp only [Bool.and_eq_true, decide_eq_true_eq] at h
        obtain ⟨⟨⟨⟨h1, h2⟩, h3⟩, h4⟩, h5⟩ := h
        exact s_parT C.good C.K (ps_asg (pe_tup (okO C.toCokE os es h5)) (g_raw C.toCokE h1).2 (by unfold swapsWithSole; exact sw_of rfl) (swapNo_ok C.scp h2) rfl) h3 (by rw [← line_eq]; exact Nat.le_trans h4 (by decide)) fun _ _ _ q => q
      · cases h
    split at h
    · simp only [Bool.and_eq_true, decide_eq_true_eq] at h
      obtain ⟨⟨l1, l2⟩, ⟨⟨⟨⟨⟨h1, h2⟩, h3⟩, h4⟩, h5⟩, h6⟩⟩ := by
        rename_i i j x px y py kt pt a b k2 p2 p3
        exact (show ((s.loc x = true ∧ s.loc y = true) ∧ ((((i ≠ j ∧ os.length = 2) ∧ s.setOk i x = true) ∧ s.setOk j y = true) ∧ swapYes s (.Tuple [.Name x px, .Name y py] kt pt) (.Tuple [a, b] k2 p2) [x, y] = true) ∧ chkO os es s [a, b] = true) from by simp_all)
      obtain ⟨n1, n2⟩ := C.set_ok h3
      obtain ⟨n3, n4⟩ := C.set_ok h4
      exact s_par2 (ps_par C.calm (by rw [C.NN]; exact C.nd) n1 n3 h1 (loc_ok C.toCokE l1) (loc_ok C.toCokE l2) (okO C.toCokE os es h6) (swapYes_ok C.scp h5) rfl) h2 fun _ _ _ q => q
    · simp only [Bool.and_eq_true, decide_eq_true_eq] at h
      obtain ⟨⟨⟨l1, l2⟩, l3⟩, ⟨⟨⟨⟨⟨⟨⟨⟨h1, h7⟩, h8⟩, h2⟩, h3⟩, h4⟩, h9⟩, h5⟩, h6⟩⟩ := by
        rename_i i j l x px y py z pz kt pt a b c k2 p2 p3
        exact (show (((s.loc x = true ∧ s.loc y = true) ∧ s.loc z = true) ∧ (((((((i ≠ j ∧ i ≠ l) ∧ j ≠ l) ∧ os.length = 3) ∧ s.setOk i x = true) ∧ s.setOk j y = true) ∧ s.setOk l z = true) ∧ swapYes s (.Tuple [.Name x px, .Name y py, .Name z pz] kt pt) (.Tuple [a, b, c] k2 p2) [x, y, z] = true) ∧ chkO os es s [a, b, c] = true) from by simp_all)
      obtain ⟨n1, n2⟩ := C.set_ok h3
      obtain ⟨n3, n4⟩ := C.set_ok h4
      obtain ⟨n5, n6⟩ := C.set_ok h9
      exact s_par3 (ps_par3 C.calm (by rw [C.NN]; exact C.nd) n1 n3 n5 h1 h7 h8 (loc_ok C.toCokE l1) (loc_ok C.toCokE l2) (loc_ok C.toCokE l3) (okO C.toCokE os es h6) (swapYes_ok C.scp h5) rfl) h2 fun _ _ _ q => q
    · cases h
  | .asT ts e, W, XW, X, s, st, C, h => by
    unfold chkS at h
    split at h
    · simp only [Bool.and_eq_true] at h
      obtain ⟨⟨⟨h1, h2⟩, h3⟩, h4⟩ := h
      refine s_asT (ps_asg (okE e C.toCokE h4).val (g_ok C.toCokE h1) (by unfold swapsWithSole; exact sw_of h2) (swapNo_ok C.scp h3) ?_) rfl fun _ _ _ _ q => q
      unfold chkG at h1
      split at h1
      · rfl
      · rfl
      · cases h1
    · cases h
  | .app i e, W, XW, X, s, st, C, h => by
    unfold chkS at h
    split at h
    · simp only [Bool.and_eq_true, decide_eq_true_eq] at h
      obtain ⟨⟨⟨⟨rfl, h2⟩, h3⟩, h4⟩, h5⟩ := h
      exact s_app C.good (C.slot h2) (okE e C.toCokE h5).val h4 (base_no rfl) h3
    · cases h
  | .pop i, W, XW, X, s, st, C, h => by
    unfold chkS at h
    split at h
    · simp only [Bool.and_eq_true, decide_eq_true_eq] at h
      obtain ⟨⟨rfl, h2⟩, h3⟩ := h
      exact s_pop C.good (C.slot h2) (base_no rfl) h3
    · cases h
  | .si i k e, W, XW, X, s, st, C, h => by
    unfold chkS at h
    split at h
    · simp only [Bool.and_eq_true] at h
      obtain ⟨⟨⟨⟨h1, h2⟩, h3⟩, h4⟩, h5⟩ := h
      exact s_si C.good (C.slot h1) (okE k C.toCokE h4).val (okE e C.toCokE h5).val h2 h3
    · cases h
  | .ri a k e, W, XW, X, s, st, C, h => by
    unfold chkS at h
    split at h
    · simp only [Bool.and_eq_true] at h
      obtain ⟨⟨⟨⟨h1, h2⟩, h3⟩, h4⟩, h5⟩ := h
      exact s_ri C.good (okE a C.toCokE h3).val (okE k C.toCokE h4).val (okE e C.toCokE h5).val h1 h2
    · cases h
  | .frz _, W, XW, X, s, st, C, h => by cases h
  | .dnew i t, W, XW, X, s, st, C, h => by
    unfold chkS at h
    split at h
    · obtain ⟨n1, n2, n3, n4⟩ := name_set (p := ⟨0, 0, 0, 0⟩) C.toCokE h
      cases t with
      | false => exact s_dnewK C.good (ps_set n1 n2 n3 pe_dnewK (sw_of rfl) n4)
      | true => exact s_dnewT C.good (ps_set n1 n2 n3 pe_dnewT (sw_of rfl) n4)
    · cases h
  | .dset i k e, W, XW, X, s, st, C, h => by
    unfold chkS at h
    split at h
    · simp only [Bool.and_eq_true] at h
      obtain ⟨⟨⟨⟨h1, h2⟩, h3⟩, h4⟩, h5⟩ := h
      obtain ⟨lv, hr, _⟩ := C.room
      exact s_dset C.good (by have := hr.un; omega) (C.slot h1) (okE k C.toCokE h4).val (okE e C.toCokE h5).val h2
    · cases h
  | .mv i j, W, XW, X, s, st, C, h => by
    unfold chkS at h
    split at h
    · rw [Bool.and_eq_true] at h
      obtain ⟨n1, n2, n3, n4⟩ := name_set (p := ⟨0, 0, 0, 0⟩) C.toCokE h.1
      exact s_mv C.good (ps_set n1 n2 n3 (C.slot h.2) (sw_of rfl) n4)
    · cases h
  | .dsg i k e, W, XW, X, s, st, C, h => by
    unfold chkS at h
    split at h
    · simp only [Bool.and_eq_true] at h
      obtain ⟨⟨h1, h2⟩, h3⟩ := h
      obtain ⟨n1, n2, n3, n4⟩ := name_set (p := ⟨0, 0, 0, 0⟩) C.toCokE h1
      exact s_dsg C.good (ps_set n1 n2 n3 (pe_disp (pps_cons (okE k C.toCokE h2).val (okE e C.toCokE h3).val pps_nil) rfl rfl (fun z => by cases z) (by show 1 ≤ 15; decide)) (sw_of rfl) n4)
    · cases h
  | .pard b i j e, W, XW, X, s, st, C, h => by
    unfold chkS at h
    split at h
    · simp only [Bool.and_eq_true, decide_eq_true_eq] at h
      obtain ⟨⟨⟨⟨⟨⟨⟨l1, l2⟩, h1⟩, h2⟩, h3⟩, h4⟩, h5⟩, h6⟩ := h
      obtain ⟨n1, n2⟩ := C.set_ok h2
      obtain ⟨n3, n4⟩ := C.set_ok h3
      exact s_pard1 C.good (ps_par C.calm (by rw [C.NN]; exact C.nd) n1 n3 h1 (loc_ok C.toCokE l1) (loc_ok C.toCokE l2) (pa_cons (okE e C.toCokE h6).val (pa_cons pe_dnewT pa_nil rfl) (star_of h5)) (swapYes_ok C.scp h4) rfl)
    · simp only [Bool.and_eq_true, decide_eq_true_eq] at h
      obtain ⟨⟨⟨⟨⟨⟨⟨l1, l2⟩, h1⟩, h2⟩, h3⟩, h4⟩, h5⟩, h6⟩ := h
      obtain ⟨n1, n2⟩ := C.set_ok h2
      obtain ⟨n3, n4⟩ := C.set_ok h3
      exact s_pard2 C.good h1 (ps_par C.calm (by rw [C.NN]; exact C.nd) n3 n1 (Ne.symm h1) (loc_ok C.toCokE l2) (loc_ok C.toCokE l1) (pa_cons pe_dnewT (pa_cons (okE e C.toCokE h6).val pa_nil (star_of h5)) rfl) (swapYes_ok C.scp h4) rfl)
    · cases h
  | .cond c a b, W, XW, X, s, st, C, h => by
    unfold chkS at h
    split at h
    · simp only [Bool.and_eq_true] at h
      obtain ⟨⟨h1, h2⟩, h3⟩ := h
      exact s_if (okE c C.toCokE h1).test (okSs a C h2) (okSs b C h3)
    · cases h
  | .loop t it b, W, XW, X, s, st, C, h => by
    unfold chkS at h
    split at h
    · simp only [Bool.and_eq_true] at h
      obtain ⟨⟨⟨h1, h2⟩, h3⟩, h4⟩ := h
      exact s_for C.po C.calm (okI it C.toCokE h3) (g_ok C.toCokE h1) (okSs b C h4) (fold_no h2)
    · cases h
  | .whl n c b, W, XW, X, s, st, C, h => by
    unfold chkS at h
    split at h
    · simp only [Bool.and_eq_true] at h
      exact s_while C.po (okE c C.toCokE h.1).test (okSs b C h.2)
    · cases h
  | .ret e, W, XW, X, s, st, C, h => by
    unfold chkS at h
    split at h
    · exact s_ret (okE e C.toCokE h).val
    · cases h
  | .retN, W, XW, X, s, st, C, h => by
    unfold chkS at h
    split at h
    · exact s_retN
    · cases h
  | .rai k, W, XW, X, s, st, C, h => by
    unfold chkS at h
    split at h
    · simp only [Bool.and_eq_true, decide_eq_true_eq, Bool.not_eq_true'] at h
      obtain ⟨⟨h1, h2⟩, h3⟩ := h
      exact s_rai C.calm C.tk (C.rai _ _ h1 (C.glb h2) h3 _ _ _ _ _)
    · cases h
theorem okSs {Φ : Fs} : ∀ (ms : List MS) {W : Wd} {XW : L2.WX} {X : Cx} {s : Sc} {sts : List Stmt}, CokS W s Φ X XW → chkSs ms s sts = true → PSs X sts (tS W XW (MS.dens Φ ms))
  | [], W, XW, X, s, sts, C, h => by
    unfold chkSs at h
    split at h
    · exact s_nil
    · cases h
  | m :: ms, W, XW, X, s, sts, C, h => by
    unfold chkSs at h
    split at h
    · exact s_ghost (okSs ms C h) fun E σ H q => g_frz E σ H q
    · split at h
      · simp only [Bool.and_eq_true] at h
        exact s_cons (okS m C h.1) (okSs ms C h.2)
      · cases h
end
end Mi
end
section
set_option Elab.async false
set_option autoImplicit false
set_option linter.all false
set_option maxRecDepth 100000
set_option maxHeartbeats 8000000
namespace Mi
open PySem PySem.Spec PyProof.Rows L2
/-! ### a def keeps its promise -/
def FnsOk (P : Program) (w : World) (W : Wd) (mg : Str → Option Value) (base : Heap) (lv : Nat) (Φ : Fs) (fns : List (Str × Nat × Nat)) : Prop := ∀ x k ar, (x, k, ar) ∈ fns → ∃ f fd ps, FnOk P w W.K mg base (L2N.CX P w) lv f fd ps (spOf W ar (Φ k)) ∧ mg x = some (.ref f) ∧ PySem.W.keepIn W.K (.ref f) = true ∧ Binds W.K fd ps []
/-- what the defs stand on besides -/
structure Gs (P : Program) (w : World) (W : Wd) (mg : Str → Option Value) (gls : List (Str × Int)) (cls : List (Str × Nat)) : Prop where
  good : W.Good
  blt : ∀ x ∈ bltN, mg x = none
  gls : ∀ x i, (x, i) ∈ gls → ∃ u, mg x = some u ∧ RelV (.int i) u
  cls : ∀ x k, (x, k) ∈ cls → mg x = some (.ref (W.ca k)) ∧ PySem.W.keepIn W.K (.ref (W.ca k)) = true ∧ ∃ bmB B newId initId, ExcBaseFacts B newId initId bmB ∧ PySem.W.excIn W.K (W.ca k) bmB newId = true ∧ PySem.W.subIn W.K (.ref (W.ca k)) (.type "BaseException") = some true ∧ PySem.W.typeIn W.K (.ref (W.ca k)) = some (.type "type")
theorem start_sl {W : Wd} {F H : Hp} {α : List Addr} {N : List Str} {ds : List D} {vs : List V} (r : Reps F α W.K ds vs) (hl : ds.length ≤ N.length) : SL W F α H (ds.map .v ++ List.replicate (N.length - ds.length) .no) (start N vs) ∧ ∀ p, ¬ OwnA (start N vs) (ds.map .v ++ List.replicate (N.length - ds.length) .no) p := by
  have hn : ∀ (i : Nat) (s : Slot), (ds.map Slot.v ++ List.replicate (N.length - ds.length) Slot.no)[i]? = some s → s.mine = false ∧ ((∃ d, s = .v d ∧ ds[i]? = some d) ∨ s = .no) := by
    intro i s e
    by_cases hi : i < ds.length
    · rw [List.getElem?_append_left (by simpa using hi), List.getElem?_map, List.getElem?_eq_getElem hi] at e
      cases e
      exact ⟨rfl, .inl ⟨_, rfl, List.getElem?_eq_getElem hi⟩⟩
    · rw [List.getElem?_append_right (by simpa using hi), List.getElem?_replicate] at e
      split at e
      · cases e
        exact ⟨rfl, .inr rfl⟩
      · cases e
  have no : ∀ p i, ¬ OwnAt (start N vs) (ds.map .v ++ List.replicate (N.length - ds.length) .no) i p := fun p i ⟨_, s, e, m⟩ => by
    rw [(hn i s e).1] at m
    cases m
  refine ⟨⟨?_, fun i s e => ?_, fun i j p h => absurd h (no p i)⟩, fun p ⟨i, h⟩ => no p i h⟩
  · unfold L2.start
    rw [List.length_append, List.length_append, List.length_map, List.length_map, List.length_replicate, List.length_replicate, r.length]
  · rcases (hn i s e).2 with ⟨d, rfl, ed⟩ | rfl
    · obtain ⟨v, ev, rv⟩ := r.get ed
      refine ⟨v, ?_, rv⟩
      unfold L2.start
      have hi := (List.getElem?_eq_some_iff.mp ev).1
      rw [List.getElem?_append_left (by simpa using hi), List.getElem?_map, ev]
      rfl
    · trivial
/-- what a def that tries deeds stands on besides -/
structure TellFn (P : Program) (W : Wd) (mg : Str → Option Value) (base : Heap) (qual : Str) (fd : FuncData) : Prop where
  tab : W.tab = LamX.Tabs
  ex : ∃ (cl : Nat → Addr) (CS ft g c Pt : Addr), TellDef P W.K mg cl CS ft g ∧ (∀ c, c < 9 → ∃ k, k < 9 ∧ W.ca c = cl k ∧ namesL.getD k "" = kinds c) ∧ LamX.TabB base mg c Pt ∧ fd.code = .ref c ∧ (Pt, qual ++ ".<locals>." ++ "<lambda>") ∈ W.T ∧ ∀ p ∈ W.T, p.1 = Pt → p.2 = qual ++ ".<locals>." ++ "<lambda>"
theorem def_ok {P : Program} {w : World} {W : Wd} {mg : Str → Option Value} {base : Heap} {f : Addr} {fd : FuncData} {x qual : Str} {st : Stmt} {ps : List Str} {s : Sc} {body : List MS} {Φ : Fs} {lv ar : Nat} (G : Gs P w W mg s.gls s.cls) (F : FunD W.K x qual (defArgs st) (defBody st) (defScope st) [] [] f fd) (S : FnScope s.N ps (defScope st))
    (hs : s.sc = defScope st) (ho : s.own = none) (hc : chkSs body s (defBody st) = true) (hf : FnsOk P w W mg base lv Φ s.fns) (ha : ps.length = ar) (htl : s.tell = true → TellFn P W mg base qual fd) : FnOk P w W.K mg base (L2N.CX P w) (lv + s.up + 1) f fd ps (spOf W ar (runDef Φ s.N.length body)) := by
  obtain ⟨oc, od, dV, kV, doc, pm, an, cdv, ct, osl, rfl, lk, hcd, _, _⟩ := F.ex
  refine fn_of lk hcd S (fun vs H Q E h => h.1.trans ha.symm) fun A outer sh H vs Q E hr h => ?_
  obtain ⟨hl, F1, α, M, ds, c, r, h⟩ := h
  refine ⟨tS W (fun cls d _ H => E cls d H) (MS.dens Φ body), ?_, ?_⟩
  · refine okSs body ?_ hc
    have tk : L2N.Takes (cxOf (L2N.CX P w) P w W.K mg base s.N qual (defScope st) f cdv A outer sh H E) (fun cls d _ H => E cls d H) := L2N.takes_of rfl rfl rfl rfl
    refine ⟨⟨G.good, rfl, hs.symm, rfl, S.nd, rfl, ⟨lv, hr, hf⟩, G.blt, G.gls, tk, fun _ _ => rfl, fun h => ⟨(htl h).tab, (htl h).ex⟩⟩, passes_of rfl, fun x k hk hg hd m j p p2 pos => ?_⟩
    obtain ⟨q1, q2, bmB, B, newId, initId, q3, q4, q5, q6⟩ := G.cls x k hk
    exact L2N.pmk_own q3 q4 q1 q2 (raises_own q5 q6) hg hd
  · have hpl : ps.length ≤ s.N.length := by
      have := congrArg List.length S.pre
      rw [List.length_take] at this
      omega
    have hdl : ds.length ≤ s.N.length := by
      have := r.length
      omega
    obtain ⟨q1, q2⟩ := start_sl (H := H) (N := s.N) r hdl
    refine ⟨F1, α, _, M, c, q1, ?_⟩
    unfold runDef at h
    have gw : ∀ {F' α' H'}, Grow (OwnA (start s.N vs) (ds.map .v ++ List.replicate (s.N.length - ds.length) .no)) F1 α H F' α' H' → Grow O0 F1 α H F' α' H' := fun g => g.weak fun a z => absurd z (q2 a)
    cases e : MS.dens Φ body (ds.map .v ++ List.replicate (s.N.length - ds.length) .no) M with
    | nx ρ' M' =>
      simp only [e] at h
      exact fun F' α' H' σ' a => h F' α' H' .non (gw a.g) a.c (.inl rfl)
    | rt d M' =>
      simp only [e] at h
      exact fun F' α' H' v a rv => h F' α' H' v (gw a.g) a.c (.inl rv)
    | bk ρ' M' =>
      simp only [e] at h
      exact h.elim
    | ct ρ' M' =>
      simp only [e] at h
      exact h.elim
    | exc k M' =>
      simp only [e] at h
      exact fun F' α' H' σ' a => h F' α' H' (gw a.g) a.c
    | stuck =>
      simp only [e] at h
      exact h.elim
end Mi
end
section
set_option Elab.async false
set_option autoImplicit false
set_option linter.all false
set_option maxRecDepth 100000
set_option maxHeartbeats 8000000
namespace Mi
open PySem PySem.Spec PyProof.Rows L2
/-! ### a table of defs -/
def Kn (P : Program) (w : World) (W : Wd) (mg : Str → Option Value) (base : Heap) (lv : Nat) (e : KF) : Prop := ∃ f fd ps, FnOk P w W.K mg base (L2N.CX P w) lv f fd ps (spOf W e.ar e.f) ∧ mg e.x = some (.ref f) ∧ PySem.W.keepIn W.K (.ref f) = true ∧ Binds W.K fd ps []
section
variable {P : Program} {w : World} {W : Wd} {mg : Str → Option Value} {base : Heap}
theorem Kn.mono {lv lv' : Nat} {e : KF} (h : Kn P w W mg base lv e) (hl : lv ≤ lv') : Kn P w W mg base lv' e := by
  obtain ⟨f, fd, ps, F, h⟩ := h
  exact ⟨f, fd, ps, F.mono hl, h⟩
/-- all of a list, each at some level at most lv -/
def KnA (P : Program) (w : World) (W : Wd) (mg : Str → Option Value) (base : Heap) (lv : Nat) : List KF → Prop
  | [] => True
  | e :: es => Kn P w W mg base lv e ∧ KnA P w W mg base lv es
theorem KnA.at_ {lv : Nat} : ∀ {l : List KF} {e : KF}, KnA P w W mg base lv l → e ∈ l → Kn P w W mg base lv e
  | [], _, _, h => by cases h
  | a :: l, e, ⟨h1, h2⟩, h => by
    rcases List.mem_cons.mp h with h | h
    · subst h
      exact h1
    · exact h2.at_ h
theorem tbl_at : ∀ {l : List KF} {e : KF}, (l.map (·.k)).Nodup → e ∈ l → tbl l e.k = e.f := by
  intro l
  induction l with
  | nil => intro e _ h; cases h
  | cons a l ih =>
    intro e nd h
    rw [List.map_cons, List.nodup_cons] at nd
    unfold tbl
    rw [List.find?_cons]
    by_cases q : a.k = e.k
    · rcases List.mem_cons.mp h with h | h
      · subst h
        simp
      · exact absurd (q ▸ List.mem_map_of_mem h) nd.1
    · have : (a.k == e.k) = false := by simpa using q
      rw [this]
      rcases List.mem_cons.mp h with h | h
      · subst h
        exact absurd rfl q
      · exact ih nd.2 h
theorem fnsOk_tbl {lv : Nat} {l : List KF} (h : KnA P w W mg base lv l) (nd : (l.map (·.k)).Nodup) : FnsOk P w W mg base lv (tbl l) (l.map fun e => (e.x, e.k, e.ar)) := by
  intro x k ar hm
  obtain ⟨e, he, e1⟩ := List.mem_map.mp hm
  cases e1
  obtain ⟨f, fd, ps, F, h2⟩ := h.at_ he
  exact ⟨f, fd, ps, by rw [tbl_at nd he]; exact F, h2⟩
/-- a def of the text -/
theorem kn_def {x : Str} {st : Stmt} {ps N : List Str} {gls : List (Str × Int)} {cls : List (Str × Nat)} {body : List MS} {l : List KF} {lv k ar : Nat} {f : Addr} {fd : FuncData} (G : Gs P w W mg gls cls) (F : FunD W.K x x (defArgs st) (defBody st) (defScope st) [] [] f fd) (hm : mg x = some (.ref f))
    (hb : ∀ (kV doc pm : Value) (an : Option Addr) (cdv ct : Value) (us : List Value), us.length = ps.length → bindArgs (PySem.W.fnOf x x (defArgs st) (defBody st) (defScope st) .none kV doc pm an cdv ct) ⟨us, []⟩ = pure (ps.zip us))
    (S : FnScope N ps (defScope st)) (hc : chkSs body ⟨N, defScope st, l.map fun e => (e.x, e.k, e.ar), gls, cls, none, false⟩ (defBody st) = true) (nd : (l.map (·.k)).Nodup) (hl : KnA P w W mg base lv l) (ha : ps.length = ar) :
    Kn P w W mg base (lv + 1) ⟨x, k, ar, runDef (tbl l) N.length body⟩ :=
  ⟨f, fd, ps, def_ok (s := ⟨N, defScope st, l.map fun e => (e.x, e.k, e.ar), gls, cls, none, false⟩) G F S rfl rfl hc (fnsOk_tbl hl nd) ha (fun h => (Bool.false_ne_true h).elim), hm, F.kp, F.bindsN hb⟩
/-- .. that tries deeds -/
theorem kn_defT {x : Str} {st : Stmt} {ps N : List Str} {gls : List (Str × Int)} {cls : List (Str × Nat)} {body : List MS} {l : List KF} {lv k ar : Nat} {f : Addr} {fd : FuncData} (G : Gs P w W mg gls cls) (F : FunD W.K x x (defArgs st) (defBody st) (defScope st) [] [] f fd) (hm : mg x = some (.ref f))
    (hb : ∀ (kV doc pm : Value) (an : Option Addr) (cdv ct : Value) (us : List Value), us.length = ps.length → bindArgs (PySem.W.fnOf x x (defArgs st) (defBody st) (defScope st) .none kV doc pm an cdv ct) ⟨us, []⟩ = pure (ps.zip us))
    (S : FnScope N ps (defScope st)) (hc : chkSs body ⟨N, defScope st, l.map fun e => (e.x, e.k, e.ar), gls, cls, none, true⟩ (defBody st) = true) (nd : (l.map (·.k)).Nodup) (hl : KnA P w W mg base lv l) (ha : ps.length = ar) (htl : TellFn P W mg base x fd) :
    Kn P w W mg base (lv + 3 + 1) ⟨x, k, ar, runDef (tbl l) N.length body⟩ :=
  ⟨f, fd, ps, def_ok (s := ⟨N, defScope st, l.map fun e => (e.x, e.k, e.ar), gls, cls, none, true⟩) G F S rfl rfl hc (fnsOk_tbl hl nd) ha (fun _ => htl), hm, F.kp, F.bindsN hb⟩
end
end Mi
end
section
set_option Elab.async false
set_option autoImplicit false
set_option linter.all false
set_option maxRecDepth 100000
set_option maxHeartbeats 8000000
namespace Mi
open PySem PySem.Spec PyProof.Rows L2
/-! ### the head's facts -/
def clsN (k : Nat) : Str := (["BadRing", "BadRow", "BadNumber", "BadCell", "BadLooks", "BadShuts", "Nothing", "Full", "BadText"] : List Str).getD k ""
def mkW (K : PySem.W.Frag) (T : List (Addr × Str)) (tab : List (Addr × Str) → Hp → Prop) : Wd := ⟨K, T, tab, fun k => He.ga K (clsN k)⟩
def faOf (dn cn : List Str) (gls : List (Str × Int)) (more : List He.Fa) : List He.Fa := dn.map .glo ++ (cn.map .exc ++ (cn.map .glo ++ (gls.map (fun p => .int p.1 p.2) ++ (bltN.map .free ++ more))))
section
variable {P : Program} {w : World} {K : PySem.W.Frag} {h base : Heap} {mg : Str → Option Value} {fa more : List He.Fa} {fn : List He.DefD} {dn cn : List Str} {gls : List (Str × Int)} {cls : List (Str × Nat)} {T : List (Addr × Str)} {tab : List (Addr × Str) → Hp → Prop}
theorem says_all (c : He.SaysD fa fn K) {f : He.Fa} (hf : f ∈ fa) : f.ok K = true := by
  obtain ⟨i, hi, e⟩ := List.getElem_of_mem hf
  exact c.fact i (by rw [List.getElem?_eq_getElem hi, e])
theorem gs_of (X : K.In h) (G : h.Ns mainGlobals mg) (c : He.SaysD (faOf dn cn gls more) fn K) (hg : (mkW K T tab).Good) (hc : ∀ p ∈ cls, p.1 ∈ cn ∧ clsN p.2 = p.1) : Gs P w (mkW K T tab) mg gls cls where
  good := hg
  blt := fun x hx => He.free_ok X G (says_all c (by
    unfold faOf
    simp only [List.mem_append, List.mem_map]
    exact .inr (.inr (.inr (.inr (.inl ⟨x, hx, rfl⟩))))))
  gls := fun x i hx => by
    obtain ⟨t, ht⟩ := He.int_ok X G (x := x) (i := i) (says_all c (by
      unfold faOf
      simp only [List.mem_append, List.mem_map]
      exact .inr (.inr (.inr (.inl ⟨(x, i), hx, rfl⟩)))))
    exact ⟨_, ht, t, rfl⟩
  cls := fun x k hx => by
    obtain ⟨h1, h2⟩ := hc _ hx
    dsimp only at h1 h2
    have e : (mkW K T tab).ca k = He.ga K x := by
      show He.ga K (clsN k) = _
      rw [h2]
    rw [e]
    obtain ⟨q1, q2, q3, q4⟩ := He.exc_ok (x := x) (says_all c (by
      unfold faOf
      simp only [List.mem_append, List.mem_map]
      exact .inr (.inl ⟨x, h1, rfl⟩)))
    exact ⟨He.glo_ok X G (says_all c (by
      unfold faOf
      simp only [List.mem_append, List.mem_map]
      exact .inr (.inr (.inl ⟨x, h1, rfl⟩)))), q2, _, _, _, _, F.excBase_ValueError, q1, q3, q4⟩
theorem glo_of (X : K.In h) (G : h.Ns mainGlobals mg) (c : He.SaysD (faOf dn cn gls more) fn K) {x : Str} (hx : x ∈ dn) : mg x = some (.ref (He.ga K x)) :=
  He.glo_ok X G (says_all c (by
    unfold faOf
    simp only [List.mem_append, List.mem_map]
    exact .inl ⟨x, hx, rfl⟩))
/-- a def of the head -/
def ddOf (x : Str) (st : Stmt) : He.DefD := ⟨(x, none), x, x, defArgs st, defBody st, defScope st, [], []⟩
theorem kn_at {x : Str} {st : Stmt} {ps N : List Str} {body : List MS} {l : List KF} {lv k ar : Nat} (X : K.In h) (G : h.Ns mainGlobals mg) (c : He.SaysD (faOf dn cn gls more) fn K) (Gg : Gs P w (mkW K T tab) mg gls cls) (j : Nat) (hj : fn[j]? = some (ddOf x st)) (hx : x ∈ dn)
    (hb : ∀ (kV doc pm : Value) (an : Option Addr) (cdv ct : Value) (us : List Value), us.length = ps.length → bindArgs (PySem.W.fnOf x x (defArgs st) (defBody st) (defScope st) .none kV doc pm an cdv ct) ⟨us, []⟩ = pure (ps.zip us))
    (S : FnScope N ps (defScope st)) (hc : chkSs body ⟨N, defScope st, l.map fun e => (e.x, e.k, e.ar), gls, cls, none, false⟩ (defBody st) = true) (nd : (l.map (·.k)).Nodup) (hl : KnA P w (mkW K T tab) mg base lv l) (ha : ps.length = ar) :
    Kn P w (mkW K T tab) mg base (lv + 1) ⟨x, k, ar, runDef (tbl l) N.length body⟩ := by
  obtain ⟨fd, F⟩ := c.def_ j hj
  exact kn_def Gg F (glo_of X G c hx) hb S hc nd hl ha
theorem kn_atT {x : Str} {st : Stmt} {ps N : List Str} {body : List MS} {l : List KF} {lv k ar : Nat} (X : K.In h) (G : h.Ns mainGlobals mg) (c : He.SaysD (faOf dn cn gls more) fn K) (Gg : Gs P w (mkW K T tab) mg gls cls) (j : Nat) (hj : fn[j]? = some (ddOf x st)) (hx : x ∈ dn)
    (hb : ∀ (kV doc pm : Value) (an : Option Addr) (cdv ct : Value) (us : List Value), us.length = ps.length → bindArgs (PySem.W.fnOf x x (defArgs st) (defBody st) (defScope st) .none kV doc pm an cdv ct) ⟨us, []⟩ = pure (ps.zip us))
    (S : FnScope N ps (defScope st)) (hc : chkSs body ⟨N, defScope st, l.map fun e => (e.x, e.k, e.ar), gls, cls, none, true⟩ (defBody st) = true) (nd : (l.map (·.k)).Nodup) (hl : KnA P w (mkW K T tab) mg base lv l) (ha : ps.length = ar) (htl : ∀ fd, FunD K x x (defArgs st) (defBody st) (defScope st) [] [] (He.ga K x) fd → TellFn P (mkW K T tab) mg base x fd) :
    Kn P w (mkW K T tab) mg base (lv + 3 + 1) ⟨x, k, ar, runDef (tbl l) N.length body⟩ := by
  obtain ⟨fd, F⟩ := c.def_ j hj
  exact kn_defT Gg F (glo_of X G c hx) hb S hc nd hl ha (htl fd F)
/-- the world without tables -/
abbrev tab0 : List (Addr × Str) → Hp → Prop := fun _ _ => True
theorem good0 : (mkW K T tab0).Good := fun _ _ _ _ => trivial
end
/-! ### the end -/
def scrOf (ns : List Int) : D := .scr (ns.map .int)
theorem reps_ints {F : Hp} {α : List Addr} {K : PySem.W.Frag} (ns : List Int) : Reps F α K (ns.map .int) (ns.map V.int) := reps_zip (f := D.int) (g := V.int) fun p _ => rfl
/-- only the script stands there: what is frozen of it -/
theorem start_cm {W : Wd} {H : Hp} {a : Addr} {ns : List Int} (hn : ns.length ≤ sizeLine) (ht : W.tab W.T H) (hS : SqL W.K H a (ns.map V.int)) : ∃ F, CM W F [] [] H ∧ Rep F [] W.K (scrOf ns) (.ref a) := by
  have nil : ∀ {F : Hp}, Same F H → (∀ b o, F b = some o → isFro o) → CM W F [] [] H := fun hs hf => ⟨hs, hf, rfl, List.nodup_nil, fun n a o e => by simp at e, ht⟩
  rcases hS with (hS | ⟨o, hS⟩) | hK
  · refine ⟨fun b => if b = a then H a else none, nil (fun b u e => ?_) fun b o e => ?_, a, _, rfl, .inl (.inl ?_), reps_ints ns, by rw [List.length_map]; exact hn⟩
    · split at e
      · rename_i q
        subst q
        exact e
      · cases e
    · split at e
      · rw [hS] at e
        cases e
        trivial
      · cases e
    · show (if a = a then H a else none) = _
      rw [if_pos rfl, hS]
  · refine ⟨fun b => if b = a then H a else none, nil (fun b u e => ?_) fun b o' e => ?_, a, _, rfl, .inl (.inr ⟨o, ?_⟩), reps_ints ns, by rw [List.length_map]; exact hn⟩
    · split at e
      · rename_i q
        subst q
        exact e
      · cases e
    · split at e
      · rw [hS] at e
        cases e
        trivial
      · cases e
    · show (if a = a then H a else none) = _
      rw [if_pos rfl, hS]
  · exact ⟨fun _ => none, nil (fun b u e => by cases e) (fun b o e => by cases e), a, _, rfl, .inr hK, reps_ints ns, by rw [List.length_map]; exact hn⟩
/-- the law's promise -/
def spLaw (W : Wd) : Sp := fun vs H Q _ => ∃ (a : Addr) (ns : List Int), vs = [.ref a] ∧ ns.length ≤ 63 ∧ (∀ z ∈ ns, Builtin.Int.intBits z ≤ 1048576) ∧ W.tab W.T H ∧ SqL W.K H a (ns.map V.int) ∧ ∀ H', Q (.bl true) H'
theorem law_fn {P : Program} {w : World} {W : Wd} {mg : Str → Option Value} {base : Heap} {f : Addr} {fd : FuncData} {x : Str} {st : Stmt} {ps N : List Str} {gls : List (Str × Int)} {cls : List (Str × Nat)} {body : List MS} {l : List KF} {lv : Nat} (G : Gs P w W mg gls cls) (F : FunD W.K x x (defArgs st) (defBody st) (defScope st) [] [] f fd)
    (S : FnScope N ps (defScope st)) (hc : chkSs body ⟨N, defScope st, l.map fun e => (e.x, e.k, e.ar), gls, cls, none, false⟩ (defBody st) = true) (nd : (l.map (·.k)).Nodup) (hl : KnA P w W mg base lv l) (ha : ps.length = 1)
    (hlaw : ∀ ns : List Int, ns.length ≤ 63 → (∀ z ∈ ns, Builtin.Int.intBits z ≤ 1048576) → ∃ M, runDef (tbl l) N.length body [scrOf ns] [] = .ok (.bl true) M) : FnOk P w W.K mg base (L2N.CX P w) (lv + 1) f fd ps (spLaw W) := by
  have FO := def_ok (s := ⟨N, defScope st, l.map fun e => (e.x, e.k, e.ar), gls, cls, none, false⟩) G F S rfl rfl hc (fnsOk_tbl hl nd) ha (fun h => (Bool.false_ne_true h).elim)
  refine FO.imp fun vs H Q E h => ?_
  obtain ⟨a, ns, rfl, hn, hbits, ht, hS, hQ⟩ := h
  obtain ⟨F1, c, r⟩ := start_cm (Nat.le_trans hn (by decide)) ht hS
  obtain ⟨M, hM⟩ := hlaw ns hn hbits
  refine ⟨rfl, F1, [], [], [scrOf ns], c, .one r, ?_⟩
  rw [hM]
  exact fun F' α' H' v g c' r' => by
    cases r'.bl
    exact hQ H'
theorem law_fnT {P : Program} {w : World} {W : Wd} {mg : Str → Option Value} {base : Heap} {f : Addr} {fd : FuncData} {x : Str} {st : Stmt} {ps N : List Str} {gls : List (Str × Int)} {cls : List (Str × Nat)} {body : List MS} {l : List KF} {lv : Nat} (G : Gs P w W mg gls cls) (F : FunD W.K x x (defArgs st) (defBody st) (defScope st) [] [] f fd)
    (S : FnScope N ps (defScope st)) (hc : chkSs body ⟨N, defScope st, l.map fun e => (e.x, e.k, e.ar), gls, cls, none, true⟩ (defBody st) = true) (nd : (l.map (·.k)).Nodup) (hl : KnA P w W mg base lv l) (ha : ps.length = 1)
    (htl : TellFn P W mg base x fd)
    (hlaw : ∀ ns : List Int, ns.length ≤ 63 → (∀ z ∈ ns, Builtin.Int.intBits z ≤ 1048576) → ∃ M, runDef (tbl l) N.length body [scrOf ns] [] = .ok (.bl true) M) : FnOk P w W.K mg base (L2N.CX P w) (lv + 3 + 1) f fd ps (spLaw W) := by
  have FO := def_ok (s := ⟨N, defScope st, l.map fun e => (e.x, e.k, e.ar), gls, cls, none, true⟩) G F S rfl rfl hc (fnsOk_tbl hl nd) ha (fun _ => htl)
  refine FO.imp fun vs H Q E h => ?_
  obtain ⟨a, ns, rfl, hn, hbits, ht, hS, hQ⟩ := h
  obtain ⟨F1, c, r⟩ := start_cm (Nat.le_trans hn (by decide)) ht hS
  obtain ⟨M, hM⟩ := hlaw ns hn hbits
  refine ⟨rfl, F1, [], [], [scrOf ns], c, .one r, ?_⟩
  rw [hM]
  exact fun F' α' H' v g c' r' => by
    cases r'.bl
    exact hQ H'
theorem cx_no {P : Program} {w : World} {H : Hp} {s : Shared} {e : Value} {s' : Shared} (h : L2N.CX P w [] H s (fun _ _ _ => False) e s') : False := by
  obtain ⟨a, B, H', cls, d, _, _, _, _, _, _, _, z⟩ := h
  exact z
end Mi
end
section
set_option Elab.async false
set_option autoImplicit false
set_option linter.all false
set_option maxRecDepth 100000
set_option maxHeartbeats 4000000
namespace Mi
open PySem
/-! ### the evaluator, by rewriting -/
section
variable {α β : Type} {Φ : Fs} {ρ : En} {M : Mst}
@[simp] theorem bind_ok_ (a : α) (M : Mst) (f : α → Mst → R β) : (R.ok a M).bind f = f a M := rfl
@[simp] theorem bind_exc_ (c : Nat) (M : Mst) (f : α → Mst → R β) : (R.exc c M : R α).bind f = .exc c M := rfl
@[simp] theorem of_some_ (a : α) (M : Mst) : R.of (some a) M = .ok a M := rfl
@[simp] theorem toS_ok_ (a : α) (M : Mst) (f : α → Mst → SR) : (R.ok a M).toS f = f a M := rfl
@[simp] theorem toS_exc_ (c : Nat) (M : Mst) (f : α → Mst → SR) : (R.exc c M : R α).toS f = .exc c M := rfl
@[simp] theorem seq_nx_ (ρ : En) (M : Mst) (f : En → Mst → SR) : (SR.nx ρ M).seq f = f ρ M := rfl
@[simp] theorem seq_rt_ (d : D) (M : Mst) (f : En → Mst → SR) : (SR.rt d M).seq f = .rt d M := rfl
@[simp] theorem seq_exc_ (c : Nat) (M : Mst) (f : En → Mst → SR) : (SR.exc c M).seq f = .exc c M := rfl
@[simp] theorem seq_bk_ (ρ : En) (M : Mst) (f : En → Mst → SR) : (SR.bk ρ M).seq f = .bk ρ M := rfl
@[simp] theorem seq_ct_ (ρ : En) (M : Mst) (f : En → Mst → SR) : (SR.ct ρ M).seq f = .ct ρ M := rfl
@[simp] theorem quiet_ok_ (a : α) (M : Mst) : (R.ok a M).quiet = .ok a M := rfl
@[simp] theorem boolOf_ (b : Bool) (M : Mst) (f : Bool → R α) : boolOf (.bl b) M f = f b := rfl
@[simp] theorem den_non : ME.den Φ .non ρ M = .ok .non M := rfl
@[simp] theorem den_bl (b : Bool) : ME.den Φ (.bl b) ρ M = .ok (.bl b) M := rfl
@[simp] theorem den_int (b : Int) : ME.den Φ (.int b) ρ M = .ok (.int b) M := rfl
@[simp] theorem den_str (b : Str) : ME.den Φ (.str b) ρ M = .ok (.str b) M := rfl
@[simp] theorem den_gl (x : Str) (d : D) : ME.den Φ (.gl x d) ρ M = .ok d M := rfl
theorem den_var {i : Nat} {d : D} (h : ρ[i]? = some (.v d)) : ME.den Φ (.var i) ρ M = .ok d M := by
  show (match ρ[i]? with
    | some (.v d) => R.ok d M
    | _ => .stuck) = _
  rw [h]
@[simp] theorem den_var_ (i : Nat) : ME.den Φ (.var i) ρ M = (match ρ[i]? with
    | some (.v d) => R.ok d M
    | _ => .stuck) := rfl
@[simp] theorem den_peek_ (i : Nat) : ME.den Φ (.peek i) ρ M = (match ρ[i]? with
    | some (.own xs) => R.ok (.lst xs) M
    | some (.v d) => .ok d M
    | _ => .stuck) := rfl
@[simp] theorem den_tup (es : MEs) : ME.den Φ (.tup es) ρ M = (es.den Φ ρ M).bind fun ds M => .ok (.tup ds) M := rfl
@[simp] theorem den_lst (es : MEs) : ME.den Φ (.lst es) ρ M = (es.den Φ ρ M).bind fun ds M => .ok (.lst ds) M := rfl
@[simp] theorem den_new (es : MEs) : ME.den Φ (.new es) ρ M = (es.den Φ ρ M).bind fun ds M => .ok (.ref M.length) (M ++ [.lst ds]) := rfl
@[simp] theorem den_told (k : Nat) (e : ME) : ME.den Φ (.told k e) ρ M = toldR (e.den Φ ρ M) := rfl
@[simp] theorem told_ok_ (d : D) (M : Mst) : toldR (.ok d M) = .ok d M := rfl
@[simp] theorem told_exc_ (c : Nat) (M : Mst) : toldR (.exc c M) = if c < 9 then .ok (.tup [.str "refused", .str (kinds c)]) M else .stuck := rfl
@[simp] theorem den_bin (op : BO) (a b : ME) : ME.den Φ (.bin op a b) ρ M = (a.den Φ ρ M).bind fun x M => (b.den Φ ρ M).bind fun y M => R.of (binD op x y) M := rfl
@[simp] theorem den_neg (a : ME) : ME.den Φ (.neg a) ρ M = (a.den Φ ρ M).bind fun x M => R.of ((intOf? x).map fun i => .int (-i)) M := rfl
@[simp] theorem den_not (a : ME) : ME.den Φ (.not a) ρ M = (a.den Φ ρ M).bind fun x M => boolOf x M fun b => .ok (.bl (!b)) M := rfl
@[simp] theorem den_cmp (op : CO) (a b : ME) : ME.den Φ (.cmp op a b) ρ M = (a.den Φ ρ M).bind fun x M => (b.den Φ ρ M).bind fun y M => R.of ((cmpD op x y).map .bl) M := rfl
@[simp] theorem den_chn (op op' : CO) (a b c : ME) : ME.den Φ (.chn op op' a b c) ρ M = (a.den Φ ρ M).bind fun x M => (b.den Φ ρ M).bind fun y M => (R.of (cmpD op x y) M).bind fun k M => if k then (c.den Φ ρ M).bind fun z M => R.of ((cmpD op' y z).map .bl) M else .ok (.bl false) M := rfl
@[simp] theorem den_and (a b : ME) : ME.den Φ (.and a b) ρ M = (a.den Φ ρ M).bind fun x M => boolOf x M fun k => if k then b.den Φ ρ M else .ok (.bl false) M := rfl
@[simp] theorem den_or (a b : ME) : ME.den Φ (.or a b) ρ M = (a.den Φ ρ M).bind fun x M => boolOf x M fun k => if k then .ok (.bl true) M else b.den Φ ρ M := rfl
@[simp] theorem den_ite (c a b : ME) : ME.den Φ (.ite c a b) ρ M = (c.den Φ ρ M).bind fun x M => boolOf x M fun k => if k then a.den Φ ρ M else b.den Φ ρ M := rfl
@[simp] theorem den_sub (a b : ME) : ME.den Φ (.sub a b) ρ M = (a.den Φ ρ M).bind fun x M => (b.den Φ ρ M).bind fun y M => R.of (subD M x y) M := rfl
@[simp] theorem den_slc (a : ME) (lo hi : MP) : ME.den Φ (.slc a lo hi) ρ M = (a.den Φ ρ M).bind fun x M => (lo.den Φ ρ M).bind fun l M => (hi.den Φ ρ M).bind fun h M => R.of (slcD x l h) M := rfl
@[simp] theorem den_rev (a : ME) : ME.den Φ (.rev a) ρ M = (a.den Φ ρ M).bind fun x M => (match x with
    | .lst xs => .ok (.lst xs.reverse) M
    | .tup xs => .ok (.tup xs.reverse) M
    | _ => .stuck) := rfl
@[simp] theorem den_call (k : Nat) (es : MEs) : ME.den Φ (.call k es) ρ M = (es.den Φ ρ M).bind fun ds M => Φ k ds M := rfl
@[simp] theorem den_b1 (f : B1) (a : ME) : ME.den Φ (.b1 f a) ρ M = (a.den Φ ρ M).bind fun x M => R.of (b1D f x) M := rfl
@[simp] theorem den_b2 (f : B2) (a b : ME) : ME.den Φ (.b2 f a b) ρ M = (a.den Φ ρ M).bind fun x M => (b.den Φ ρ M).bind fun y M => R.of (b2D f x y) M := rfl
@[simp] theorem den_isi (a : ME) (t : Ty) : ME.den Φ (.isi a t) ρ M = (a.den Φ ρ M).bind fun x M => R.of ((isiD t x).map .bl) M := rfl
@[simp] theorem den_index (a b : ME) : ME.den Φ (.index a b) ρ M = (a.den Φ ρ M).bind fun x M => if isLst x then (b.den Φ ρ M).bind fun y M => R.of (indexD x y) M else .stuck := rfl
@[simp] theorem den_lrg (it : MI) : ME.den Φ (.lrg it) ρ M = (it.den Φ ρ M).bind fun xs M => .ok (.lst xs) M := rfl
@[simp] theorem den_trg (it : MI) : ME.den Φ (.trg it) ρ M = (it.den Φ ρ M).bind fun xs M => .ok (.tup xs) M := rfl
@[simp] theorem den_comp (elt : ME) (t : List Nat) (it : MI) : ME.den Φ (.comp elt t it) ρ M = (it.den Φ ρ M).bind fun xs M => (compD (fun x M => match asg (wipE ρ t) t x with
    | some ρ => (elt.den Φ ρ M).quiet.bind fun y M => .ok (some y) M
    | none => .stuck) xs M).bind fun ys M => .ok (.lst ys) M := rfl
@[simp] theorem den_compIf (elt : ME) (t : List Nat) (it : MI) (c : ME) : ME.den Φ (.compIf elt t it c) ρ M = (it.den Φ ρ M).bind fun xs M => (compD (fun x M => match asg (wipE ρ t) t x with
    | some ρ => (c.den Φ ρ M).quiet.bind fun k M => boolOf k M fun k => if k then (elt.den Φ ρ M).quiet.bind fun y M => .ok (some y) M else .ok none M
    | none => .stuck) xs M).bind fun ys M => .ok (.lst ys) M := rfl
@[simp] theorem den_dget (i : Nat) (k : ME) : ME.den Φ (.dget i k) ρ M = if isDi ρ[i]? = false then .stuck else (k.den Φ ρ M).bind fun y M => R.of ((slGet ρ[i]? y).bind id) M := rfl
@[simp] theorem den_dgetd (i : Nat) (k d : ME) : ME.den Φ (.dgetd i k d) ρ M = if isDi ρ[i]? = false then .stuck else (k.den Φ ρ M).bind fun y M => (d.den Φ ρ M).bind fun z M => R.of ((slGet ρ[i]? y).map fun o => o.getD z) M := rfl
@[simp] theorem den_dn (a : ME) : ME.den Φ (.dn a) ρ M = (a.den Φ ρ M).bind fun x M => .ok (dnD x) M := rfl
@[simp] theorem den_ctup (a : ME) : ME.den Φ (.ctup a) ρ M = (a.den Φ ρ M).bind fun x M => (match x with
    | .lst xs => if clM then .ok (.rw xs) M else .stuck
    | _ => .stuck) := rfl
@[simp] theorem den_tix (a b : ME) : ME.den Φ (.tix a b) ρ M = (a.den Φ ρ M).bind fun x M => (match x with
    | .rw xs => (b.den Φ ρ M).bind fun y M => R.of (tixD xs y) M
    | _ => .stuck) := rfl
@[simp] theorem dnD_rw (xs : List D) : dnD (.rw xs) = .tup xs := rfl
@[simp] theorem dnD_tup (xs : List D) : dnD (.tup xs) = .tup xs := rfl
@[simp] theorem isDi_di (k : List (Int × D)) : isDi (some (.di k)) = true := rfl
@[simp] theorem isDi_dz (k : List (Int × D)) : isDi (some (.dz k)) = true := rfl
@[simp] theorem isDi_dt (k : List (List Int × D)) : isDi (some (.dt k)) = true := rfl
@[simp] theorem slGet_di (k : List (Int × D)) (j : Int) : slGet (some (.di k)) (.int j) = some (atD k j) := rfl
@[simp] theorem slGet_dz (k : List (Int × D)) (j : Int) : slGet (some (.dz k)) (.int j) = some (atD k j) := rfl
@[simp] theorem slPut_di (k : List (Int × D)) (j : Int) (d : D) : slPut (some (.di k)) (.int j) d = if k.length < line then some (.di (putD k j d)) else none := rfl
@[simp] theorem sgS_int (i : Nat) (j : Int) (d : D) : sgS ρ i (.int j) d M = .nx (ρ.set i (.dz [(j, d)])) M := rfl
@[simp] theorem den_keys (i : Nat) : MI.den Φ (.keys i) ρ M = (match ρ[i]? with
    | some (.dz kvs) => .ok (kvs.map fun p => .int p.1) M
    | _ => .stuck) := rfl
@[simp] theorem den_dnew (i : Nat) (t : Bool) : MS.den Φ (.dnew i t) ρ M = .nx (ρ.set i (if t then .dt [] else .di [])) M := rfl
@[simp] theorem den_dset (i : Nat) (k e : ME) : MS.den Φ (.dset i k e) ρ M = (e.den Φ ρ M).toS fun d M => if isDi ρ[i]? = false then .stuck else (k.den Φ ρ M).toS fun x M => (match slPut ρ[i]? x d with
    | some s => .nx (ρ.set i s) M
    | none => .stuck) := rfl
@[simp] theorem den_mv (i j : Nat) : MS.den Φ (.mv i j) ρ M = (match ρ[j]? with
    | some (.di kvs) => .nx ((ρ.set j .no).set i (.dz kvs)) M
    | _ => .stuck) := rfl
@[simp] theorem den_dsg (i : Nat) (k e : ME) : MS.den Φ (.dsg i k e) ρ M = (k.den Φ ρ M).toS fun x M => (e.den Φ ρ M).toS fun d M => sgS ρ i x d M := rfl
@[simp] theorem den_pard (b : Bool) (i j : Nat) (e : ME) : MS.den Φ (.pard b i j e) ρ M = (e.den Φ ρ M).toS fun d M => .nx ((ρ.set i (.v d)).set j (.dt [])) M := rfl
@[simp] theorem den_nil : MEs.den Φ .nil ρ M = .ok [] M := rfl
@[simp] theorem den_cons (e : ME) (es : MEs) : MEs.den Φ (.cons e es) ρ M = (e.den Φ ρ M).bind fun d M => (es.den Φ ρ M).bind fun ds M => .ok (d :: ds) M := rfl
@[simp] theorem den_no : MP.den Φ .no ρ M = .ok none M := rfl
@[simp] theorem den_some (e : ME) : MP.den Φ (.some e) ρ M = (e.den Φ ρ M).bind fun x M => R.of ((intOf? x).map some) M := rfl
@[simp] theorem den_seq (e : ME) : MI.den Φ (.seq e) ρ M = (e.den Φ ρ M).bind fun d M => R.of (items d) M := rfl
@[simp] theorem den_rng (a : ME) : MI.den Φ (.rng a) ρ M = (a.den Φ ρ M).bind fun x M => R.of ((intOf? x).bind fun b => if rngOk 0 b then some (rngI 0 b) else none) M := rfl
@[simp] theorem den_rng2 (a b : ME) : MI.den Φ (.rng2 a b) ρ M = (a.den Φ ρ M).bind fun x M => (b.den Φ ρ M).bind fun y M => R.of ((intOf? x).bind fun a => (intOf? y).bind fun b => if rngOk a b then some (rngI a b) else none) M := rfl
@[simp] theorem den_zip (a b : ME) : MI.den Φ (.zip a b) ρ M = (a.den Φ ρ M).bind fun x M => (b.den Φ ρ M).bind fun y M => R.of ((items x).bind fun xs => (items y).map fun ys => zipD xs ys) M := rfl
@[simp] theorem den_enum (a : ME) : MI.den Φ (.enum a) ρ M = (a.den Φ ρ M).bind fun x M => R.of (match x with
    | .lst xs => some (enumD xs)
    | _ => none) M := rfl
@[simp] theorem dens_nil : MS.dens Φ [] ρ M = .nx ρ M := rfl
@[simp] theorem dens_cons (s : MS) (ss : List MS) : MS.dens Φ (s :: ss) ρ M = (s.den Φ ρ M).seq fun ρ M => MS.dens Φ ss ρ M := rfl
@[simp] theorem den_skip : MS.den Φ .skip ρ M = .nx ρ M := rfl
@[simp] theorem den_ex (e : ME) : MS.den Φ (.ex e) ρ M = (e.den Φ ρ M).toS fun _ M => .nx ρ M := rfl
@[simp] theorem den_set (i : Nat) (e : ME) : MS.den Φ (.set i e) ρ M = (e.den Φ ρ M).toS fun d M => .nx (ρ.set i (.v d)) M := rfl
@[simp] theorem den_own (i : Nat) (e : ME) : MS.den Φ (.own i e) ρ M = (e.den Φ ρ M).toS fun d M => (match d with
    | .lst xs => .nx (ρ.set i (.own xs)) M
    | _ => .stuck) := rfl
@[simp] theorem den_par (ts : List Nat) (os : List Bool) (es : MEs) : MS.den Φ (.par ts os es) ρ M = (es.den Φ ρ M).toS fun ds M => (match parS ρ ts os ds with
    | some ρ => .nx ρ M
    | none => .stuck) := rfl
@[simp] theorem den_asT (ts : List Nat) (e : ME) : MS.den Φ (.asT ts e) ρ M = (e.den Φ ρ M).toS fun d M => (match asg ρ ts d with
    | some ρ => .nx ρ M
    | none => .stuck) := rfl
@[simp] theorem den_app (i : Nat) (e : ME) : MS.den Φ (.app i e) ρ M = (match ρ[i]? with
    | some (.own xs) => (e.den Φ ρ M).toS fun d M => if xs.length < line then .nx (ρ.set i (.own (xs ++ [d]))) M else .stuck
    | _ => .stuck) := rfl
@[simp] theorem den_pop (i : Nat) : MS.den Φ (.pop i) ρ M = (match ρ[i]? with
    | some (.own xs) => if xs = [] then .stuck else .nx (ρ.set i (.own xs.dropLast)) M
    | _ => .stuck) := rfl
@[simp] theorem den_si (i : Nat) (k e : ME) : MS.den Φ (.si i k e) ρ M = (match ρ[i]? with
    | some (.own xs) => (e.den Φ ρ M).toS fun d M => (k.den Φ ρ M).toS fun x M => (match x with
      | .int j => (match L2.ixN xs.length j with
        | some n => .nx (ρ.set i (.own (xs.set n d))) M
        | none => .stuck)
      | _ => .stuck)
    | _ => .stuck) := rfl
@[simp] theorem den_ri (a k e : ME) : MS.den Φ (.ri a k e) ρ M = (e.den Φ ρ M).toS fun d M => (a.den Φ ρ M).toS fun o M => (k.den Φ ρ M).toS fun x M => (match o, x with
    | .ref r, .int j => (match M[r]? with
      | some (.lst xs) => (match L2.ixN xs.length j with
        | some n => .nx ρ (M.set r (.lst (xs.set n d)))
        | none => .stuck)
      | _ => .stuck)
    | _, _ => .stuck) := rfl
@[simp] theorem den_frz (i : Nat) : MS.den Φ (.frz i) ρ M = (match ρ[i]? with
    | some (.own xs) => .nx (ρ.set i (.v (.lst xs))) M
    | some (.v _) => .nx ρ M
    | _ => .stuck) := rfl
def condS (x : D) (a b : SR) : SR := match x with
  | .bl true => a
  | .bl false => b
  | _ => .stuck
@[simp] theorem condS_bl (k : Bool) (a b : SR) : condS (.bl k) a b = if k = true then a else b := by cases k <;> rfl
@[simp] theorem den_cond (c : ME) (a b : List MS) : MS.den Φ (.cond c a b) ρ M = (c.den Φ ρ M).toS fun x M => condS x (MS.dens Φ a ρ M) (MS.dens Φ b ρ M) := rfl
@[simp] theorem den_loop (t : List Nat) (it : MI) (b : List MS) : MS.den Φ (.loop t it b) ρ M = (it.den Φ ρ M).toS fun xs M => forD (fun x ρ M => match asg ρ t x with
    | some ρ => MS.dens Φ b ρ M
    | none => .stuck) xs ρ M := rfl
@[simp] theorem den_whl (n : Nat) (c : ME) (b : List MS) : MS.den Φ (.whl n c b) ρ M = whileD (c.den Φ) (fun ρ M => MS.dens Φ b ρ M) n ρ M := rfl
@[simp] theorem den_ret (e : ME) : MS.den Φ (.ret e) ρ M = (e.den Φ ρ M).toS fun d M => .rt d M := rfl
@[simp] theorem den_retN : MS.den Φ .retN ρ M = .rt .non M := rfl
@[simp] theorem den_rai (c : Nat) : MS.den Φ (.rai c) ρ M = .exc c M := rfl
/-! comprehensions, loops -/
theorem compD_map {β : Type} {f : β → Mst → R (Option D)} {g : β → D} {M : Mst} : ∀ {xs : List β}, (∀ x ∈ xs, f x M = .ok (some (g x)) M) → compD f xs M = .ok (xs.map g) M
  | [], _ => rfl
  | x :: xs, h => by
    have ih := compD_map (f := f) (g := g) (M := M) (xs := xs) fun y hy => h y (by simp [hy])
    unfold compD
    rw [h x (by simp)]
    simp only [bind_ok_, ih]
    rfl
theorem compD_fil {β : Type} {f : β → Mst → R (Option D)} {p : β → Bool} {g : β → D} {M : Mst} : ∀ {xs : List β}, (∀ x ∈ xs, f x M = .ok (if p x then some (g x) else none) M) → compD f xs M = .ok ((xs.filter p).map g) M
  | [], _ => rfl
  | x :: xs, h => by
    have ih := compD_fil (f := f) (p := p) (g := g) (M := M) (xs := xs) fun y hy => h y (by simp [hy])
    unfold compD
    rw [h x (by simp)]
    simp only [bind_ok_, ih]
    cases q : p x with
    | true => simp [q]
    | false => simp [q]
theorem forD_inv {f : D → En → Mst → SR} (P : Nat → En → Mst → Prop) : ∀ {xs : List D} {i : Nat} {ρ : En} {M : Mst}, P i ρ M → (∀ (j : Nat) (x : D) (ρ : En) (M : Mst), xs[j]? = some x → P (i + j) ρ M → ∃ ρ' M', f x ρ M = .nx ρ' M' ∧ P (i + j + 1) ρ' M') → ∃ ρ' M', forD f xs ρ M = .nx ρ' M' ∧ P (i + xs.length) ρ' M'
  | [], i, ρ, M, h, hs => ⟨ρ, M, rfl, h⟩
  | x :: xs, i, ρ, M, h, hs => by
    obtain ⟨ρ1, M1, e1, h1⟩ := hs 0 x ρ M rfl h
    obtain ⟨ρ2, M2, e2, h2⟩ := forD_inv P (xs := xs) (i := i + 1) h1 fun j y ρ M ey hp => by
      have := hs (j + 1) y ρ M (by simpa using ey) (by rw [show i + (j + 1) = i + 1 + j by omega]; exact hp)
      rw [show i + (j + 1) + 1 = i + 1 + j + 1 by omega] at this
      exact this
    refine ⟨ρ2, M2, ?_, by rw [List.length_cons, show i + (xs.length + 1) = i + 1 + xs.length by omega]; exact h2⟩
    unfold forD
    rw [e1]
    exact e2
theorem whileD_step {c : En → Mst → R D} {f : En → Mst → SR} {n : Nat} {ρ ρ' : En} {M M' : Mst} (hc : c ρ M = .ok (.bl true) M) (hf : f ρ M = .nx ρ' M') : whileD c f (n + 1) ρ M = whileD c f n ρ' M' := by
  show (c ρ M).toS _ = _
  rw [hc]
  show (match f ρ M with
    | .nx ρ M => whileD c f n ρ M
    | .ct ρ M => whileD c f n ρ M
    | .bk ρ M => .nx ρ M
    | r => r) = _
  rw [hf]
theorem whileD_stop {c : En → Mst → R D} {f : En → Mst → SR} {n : Nat} {ρ : En} {M : Mst} (hc : c ρ M = .ok (.bl false) M) : whileD c f (n + 1) ρ M = .nx ρ M := by
  show (c ρ M).toS _ = _
  rw [hc]
  rfl
/-- a while loop: states s 0, s 1, .. s m; it ends at s m -/
theorem whileD_run {c : En → Mst → R D} {f : En → Mst → SR} {M : Mst} (s : Nat → En) (m : Nat) (ht : ∀ i, i < m → c (s i) M = .ok (.bl true) M) (hs : ∀ i, i < m → f (s i) M = .nx (s (i + 1)) M) (he : c (s m) M = .ok (.bl false) M) : ∀ (k n : Nat), k ≤ m → m - k < n → whileD c f n (s k) M = .nx (s m) M
  | k, 0, _, h => by omega
  | k, n + 1, hk, h => by
    by_cases e : k = m
    · subst e
      exact whileD_stop he
    · rw [whileD_step (ht k (by omega)) (hs k (by omega))]
      exact whileD_run s m ht hs he (k + 1) n (by omega) (by omega)
end
end Mi
end
section
set_option autoImplicit false
set_option linter.all false
set_option maxRecDepth 100000
namespace Gc
open PySem Mi
def b_is_whole : List MS := [.ret (.and (.isi (.var 0) .int) (.and (.not (.isi (.var 0) .bool)) (.chn .le .le (.var 1) (.var 0) (.var 2))))]
def T_is_whole : List KF := []
def f_is_whole : List D → Mst → R D := runDef (tbl T_is_whole) 3 b_is_whole
def e_is_whole : KF := ⟨"is_whole", 1, 3, f_is_whole⟩
def b_is_ring : List MS := [.ret (.and (.isi (.var 0) .tuple) (.and (.cmp .eq (.b1 .len (.var 0)) (.int 2)) (.and (.call 1 (.cons (.sub (.var 0) (.int 0)) (.cons (.int 4) (.cons (.int 24) .nil)))) (.call 1 (.cons (.sub (.var 0) (.int 1)) (.cons (.int 1) (.cons (.int 3) .nil)))))))]
def T_is_ring : List KF := [e_is_whole]
@[simp] theorem t_is_ring_is_whole : tbl T_is_ring 1 = f_is_whole := rfl
def f_is_ring : List D → Mst → R D := runDef (tbl T_is_ring) 1 b_is_ring
def e_is_ring : KF := ⟨"is_ring", 2, 1, f_is_ring⟩
def b_need_ring : List MS := [.cond (.not (.call 2 (.cons (.var 0) .nil))) [.rai 0] []]
def T_need_ring : List KF := [e_is_ring]
@[simp] theorem t_need_ring_is_ring : tbl T_need_ring 2 = f_is_ring := rfl
def f_need_ring : List D → Mst → R D := runDef (tbl T_need_ring) 1 b_need_ring
def e_need_ring : KF := ⟨"need_ring", 3, 1, f_need_ring⟩
def b_is_good_row : List MS := [.cond (.or (.not (.isi (.var 1) .tuple)) (.or (.cmp .eq (.var 1) (.tup .nil)) (.not (.b1 .all (.comp (.call 1 (.cons (.var 2) (.cons (.int 0) (.cons (.bin .sub (.sub (.var 0) (.int 0)) (.int 1)) .nil)))) [2] (.seq (.var 1))))))) [.ret (.bl false)] [], .ret (.b1 .all (.comp (.cmp .lt (.var 2) (.var 3)) [2, 3] (.zip (.var 1) (.slc (.var 1) (.some (.int 1)) .no))))]
def T_is_good_row : List KF := [e_is_whole]
@[simp] theorem t_is_good_row_is_whole : tbl T_is_good_row 1 = f_is_whole := rfl
def f_is_good_row : List D → Mst → R D := runDef (tbl T_is_good_row) 4 b_is_good_row
def e_is_good_row : KF := ⟨"is_good_row", 4, 2, f_is_good_row⟩
def b_need_row : List MS := [.ex (.call 3 (.cons (.var 0) .nil)), .cond (.not (.call 4 (.cons (.var 0) (.cons (.var 1) .nil)))) [.rai 1] []]
def T_need_row : List KF := [e_need_ring, e_is_good_row]
@[simp] theorem t_need_row_need_ring : tbl T_need_row 3 = f_need_ring := rfl
@[simp] theorem t_need_row_is_good_row : tbl T_need_row 4 = f_is_good_row := rfl
def f_need_row : List D → Mst → R D := runDef (tbl T_need_row) 2 b_need_row
def e_need_row : KF := ⟨"need_row", 5, 2, f_need_row⟩
def b_all_gaps : List MS := [.set 2 (.bin .add (.b1 .list (.slc (.var 1) (.some (.int 1)) .no)) (.lst (.cons (.bin .add (.sub (.var 1) (.int 0)) (.sub (.var 0) (.int 0))) .nil))), .ret (.b1 .tuple (.comp (.bin .sub (.bin .sub (.var 4) (.var 3)) (.int 1)) [3, 4] (.zip (.var 1) (.var 2))))]
def T_all_gaps : List KF := []
def f_all_gaps : List D → Mst → R D := runDef (tbl T_all_gaps) 5 b_all_gaps
def e_all_gaps : KF := ⟨"all_gaps", 6, 2, f_all_gaps⟩
def b_gaps : List MS := [.ex (.call 5 (.cons (.var 0) (.cons (.var 1) .nil))), .ret (.call 6 (.cons (.var 0) (.cons (.var 1) .nil)))]
def T_gaps : List KF := [e_need_row, e_all_gaps]
@[simp] theorem t_gaps_need_row : tbl T_gaps 5 = f_need_row := rfl
@[simp] theorem t_gaps_all_gaps : tbl T_gaps 6 = f_all_gaps := rfl
def f_gaps : List D → Mst → R D := runDef (tbl T_gaps) 2 b_gaps
def e_gaps : KF := ⟨"gaps", 40, 2, f_gaps⟩
def b_goings : List MS := [.ret (.b1 .tuple (.comp (.b2 .min (.sub (.var 0) (.int 1)) (.var 2)) [2] (.seq (.call 6 (.cons (.var 0) (.cons (.var 1) .nil))))))]
def T_goings : List KF := [e_all_gaps]
@[simp] theorem t_goings_all_gaps : tbl T_goings 6 = f_all_gaps := rfl
def f_goings : List D → Mst → R D := runDef (tbl T_goings) 3 b_goings
def e_goings : KF := ⟨"goings", 8, 2, f_goings⟩
def b_moved : List MS := [.ret (.b1 .tuple (.b1 .sorted (.comp (.bin .mod (.bin .add (.var 3) (.var 4)) (.sub (.var 0) (.int 0))) [3, 4] (.zip (.var 1) (.var 2)))))]
def T_moved : List KF := []
def f_moved : List D → Mst → R D := runDef (tbl T_moved) 5 b_moved
def e_moved : KF := ⟨"moved", 7, 3, f_moved⟩
def b_next_row : List MS := [.ret (.call 7 (.cons (.var 0) (.cons (.var 1) (.cons (.call 8 (.cons (.var 0) (.cons (.var 1) .nil))) .nil))))]
def T_next_row : List KF := [e_moved, e_goings]
@[simp] theorem t_next_row_moved : tbl T_next_row 7 = f_moved := rfl
@[simp] theorem t_next_row_goings : tbl T_next_row 8 = f_goings := rfl
def f_next_row : List D → Mst → R D := runDef (tbl T_next_row) 2 b_next_row
def e_next_row : KF := ⟨"next_row", 9, 2, f_next_row⟩
def b_lowest : List MS := [.par [2, 3] [false, false] (.cons (.var 0) (.cons (.var 1) .nil)), .whl 1000000 (.cmp .ne (.var 3) (.int 0)) [.par [2, 3] [false, false] (.cons (.var 3) (.cons (.bin .mod (.var 2) (.var 3)) .nil))], .ret (.tup (.cons (.bin .fdiv (.var 0) (.var 2)) (.cons (.bin .fdiv (.var 1) (.var 2)) .nil)))]
def T_lowest : List KF := []
def f_lowest : List D → Mst → R D := runDef (tbl T_lowest) 4 b_lowest
def e_lowest : KF := ⟨"lowest", 10, 2, f_lowest⟩
def b_pace : List MS := [.ex (.call 5 (.cons (.var 0) (.cons (.var 1) .nil))), .asT [3, 4] (.var 0), .set 2 (.b1 .len (.var 1)), .ret (.ite (.cmp .ge (.var 3) (.bin .mul (.var 2) (.bin .add (.var 4) (.int 1)))) (.tup (.cons (.var 4) (.cons (.int 1) .nil))) (.call 10 (.cons (.bin .sub (.var 3) (.var 2)) (.cons (.var 2) .nil))))]
def T_pace : List KF := [e_need_row, e_lowest]
@[simp] theorem t_pace_need_row : tbl T_pace 5 = f_need_row := rfl
@[simp] theorem t_pace_lowest : tbl T_pace 10 = f_lowest := rfl
def f_pace : List D → Mst → R D := runDef (tbl T_pace) 5 b_pace
def e_pace : KF := ⟨"pace", 62, 2, f_pace⟩
def b_does_run : List MS := [.ret (.cmp .ge (.b1 .min (.call 6 (.cons (.var 0) (.cons (.var 1) .nil)))) (.sub (.var 0) (.int 1)))]
def T_does_run : List KF := [e_all_gaps]
@[simp] theorem t_does_run_all_gaps : tbl T_does_run 6 = f_all_gaps := rfl
def f_does_run : List D → Mst → R D := runDef (tbl T_does_run) 2 b_does_run
def e_does_run : KF := ⟨"does_run", 53, 2, f_does_run⟩
def b_does_back : List MS := [.ret (.cmp .le (.b1 .max (.call 6 (.cons (.var 0) (.cons (.var 1) .nil)))) (.sub (.var 0) (.int 1)))]
def T_does_back : List KF := [e_all_gaps]
@[simp] theorem t_does_back_all_gaps : tbl T_does_back 6 = f_all_gaps := rfl
def f_does_back : List D → Mst → R D := runDef (tbl T_does_back) 2 b_does_back
def e_does_back : KF := ⟨"does_back", 54, 2, f_does_back⟩
def b_runs : List MS := [.ex (.call 5 (.cons (.var 0) (.cons (.var 1) .nil))), .ret (.call 53 (.cons (.var 0) (.cons (.var 1) .nil)))]
def T_runs : List KF := [e_need_row, e_does_run]
@[simp] theorem t_runs_need_row : tbl T_runs 5 = f_need_row := rfl
@[simp] theorem t_runs_does_run : tbl T_runs 53 = f_does_run := rfl
def f_runs : List D → Mst → R D := runDef (tbl T_runs) 2 b_runs
def e_runs : KF := ⟨"runs", 61, 2, f_runs⟩
def b_backs : List MS := [.ex (.call 5 (.cons (.var 0) (.cons (.var 1) .nil))), .ret (.call 54 (.cons (.var 0) (.cons (.var 1) .nil)))]
def T_backs : List KF := [e_need_row, e_does_back]
@[simp] theorem t_backs_need_row : tbl T_backs 5 = f_need_row := rfl
@[simp] theorem t_backs_does_back : tbl T_backs 54 = f_does_back := rfl
def f_backs : List D → Mst → R D := runDef (tbl T_backs) 2 b_backs
def e_backs : KF := ⟨"backs", 60, 2, f_backs⟩
def b_settled : List MS := [.set 2 (.int 0), .whl 1000000 (.and (.not (.call 53 (.cons (.var 0) (.cons (.var 1) .nil)))) (.not (.call 54 (.cons (.var 0) (.cons (.var 1) .nil))))) [.par [2, 1] [false, false] (.cons (.bin .add (.var 2) (.int 1)) (.cons (.call 9 (.cons (.var 0) (.cons (.var 1) .nil))) .nil))], .ret (.tup (.cons (.var 2) (.cons (.ite (.call 53 (.cons (.var 0) (.cons (.var 1) .nil))) (.str "runs") (.str "backs")) (.cons (.var 1) .nil))))]
def T_settled : List KF := [e_does_back, e_does_run, e_next_row]
@[simp] theorem t_settled_does_back : tbl T_settled 54 = f_does_back := rfl
@[simp] theorem t_settled_does_run : tbl T_settled 53 = f_does_run := rfl
@[simp] theorem t_settled_next_row : tbl T_settled 9 = f_next_row := rfl
def f_settled : List D → Mst → R D := runDef (tbl T_settled) 3 b_settled
def e_settled : KF := ⟨"settled", 55, 2, f_settled⟩
def b_settles : List MS := [.ex (.call 5 (.cons (.var 0) (.cons (.var 1) .nil))), .ret (.slc (.call 55 (.cons (.var 0) (.cons (.var 1) .nil))) .no (.some (.int 2)))]
def T_settles : List KF := [e_need_row, e_settled]
@[simp] theorem t_settles_need_row : tbl T_settles 5 = f_need_row := rfl
@[simp] theorem t_settles_settled : tbl T_settles 55 = f_settled := rfl
def f_settles : List D → Mst → R D := runDef (tbl T_settles) 2 b_settles
def e_settles : KF := ⟨"settles", 59, 2, f_settles⟩
def b_round_at : List MS := [.asT [2, 3, 4] (.call 55 (.cons (.var 0) (.cons (.var 1) .nil))), .par [5, 6] [false, false] (.cons (.call 9 (.cons (.var 0) (.cons (.var 4) .nil))) (.cons (.int 1) .nil)), .whl 1000000 (.cmp .ne (.var 5) (.var 4)) [.par [5, 6] [false, false] (.cons (.call 9 (.cons (.var 0) (.cons (.var 5) .nil))) (.cons (.bin .add (.var 6) (.int 1)) .nil))], .ret (.tup (.cons (.var 2) (.cons (.var 6) .nil)))]
def T_round_at : List KF := [e_settled, e_next_row]
@[simp] theorem t_round_at_settled : tbl T_round_at 55 = f_settled := rfl
@[simp] theorem t_round_at_next_row : tbl T_round_at 9 = f_next_row := rfl
def f_round_at : List D → Mst → R D := runDef (tbl T_round_at) 7 b_round_at
def e_round_at : KF := ⟨"round_at", 56, 2, f_round_at⟩
def b_round_of : List MS := [.ex (.call 5 (.cons (.var 0) (.cons (.var 1) .nil))), .ret (.call 56 (.cons (.var 0) (.cons (.var 1) .nil)))]
def T_round_of : List KF := [e_need_row, e_round_at]
@[simp] theorem t_round_of_need_row : tbl T_round_of 5 = f_need_row := rfl
@[simp] theorem t_round_of_round_at : tbl T_round_of 56 = f_round_at := rfl
def f_round_of : List D → Mst → R D := runDef (tbl T_round_of) 2 b_round_of
def e_round_of : KF := ⟨"round_of", 57, 2, f_round_of⟩
def b_need_moment : List MS := [.cond (.not (.call 1 (.cons (.var 0) (.cons (.int 0) (.cons (.gl "FARTHEST" (.int 1000000000000000000)) .nil))))) [.rai 2] []]
def T_need_moment : List KF := [e_is_whole]
@[simp] theorem t_need_moment_is_whole : tbl T_need_moment 1 = f_is_whole := rfl
def f_need_moment : List D → Mst → R D := runDef (tbl T_need_moment) 1 b_need_moment
def e_need_moment : KF := ⟨"need_moment", 11, 1, f_need_moment⟩
def b_need_all : List MS := [.ex (.call 5 (.cons (.var 0) (.cons (.var 1) .nil))), .ex (.call 11 (.cons (.var 2) .nil))]
def T_need_all : List KF := [e_need_row, e_need_moment]
@[simp] theorem t_need_all_need_row : tbl T_need_all 5 = f_need_row := rfl
@[simp] theorem t_need_all_need_moment : tbl T_need_all 11 = f_need_moment := rfl
def f_need_all : List D → Mst → R D := runDef (tbl T_need_all) 3 b_need_all
def e_need_all : KF := ⟨"need_all", 15, 3, f_need_all⟩
def b_ahead_of : List MS := [.set 4 (.bin .fdiv (.bin .add (.var 2) (.var 3)) (.b1 .len (.var 1))), .ret (.bin .sub (.bin .add (.bin .mul (.var 4) (.sub (.var 0) (.int 0))) (.sub (.var 1) (.bin .mod (.bin .add (.var 2) (.var 3)) (.b1 .len (.var 1))))) (.sub (.var 1) (.var 2)))]
def T_ahead_of : List KF := []
def f_ahead_of : List D → Mst → R D := runDef (tbl T_ahead_of) 5 b_ahead_of
def e_ahead_of : KF := ⟨"ahead_of", 13, 4, f_ahead_of⟩
def b_asked : List MS := [.set 3 (.b1 .len (.var 1)), .cond (.cmp .lt (.var 2) (.bin .mul (.int 2) (.var 3))) [.ret (.lrg (.rng (.bin .add (.var 2) (.int 1))))] [], .cond (.cmp .ge (.sub (.var 0) (.int 0)) (.bin .mul (.var 3) (.bin .add (.sub (.var 0) (.int 1)) (.int 1)))) [.ret (.lrg (.rng (.var 3)))] [], .ret (.lrg (.rng2 (.bin .add (.bin .sub (.var 2) (.var 3)) (.int 1)) (.bin .add (.var 2) (.int 1))))]
def T_asked : List KF := []
def f_asked : List D → Mst → R D := runDef (tbl T_asked) 4 b_asked
def e_asked : KF := ⟨"asked", 12, 3, f_asked⟩
def b_least_at : List MS := [.own 4 (.lst .nil), .loop [5] (.seq (.call 12 (.cons (.var 0) (.cons (.var 1) (.cons (.var 3) .nil))))) [.app 4 (.tup (.cons (.bin .sub (.bin .add (.call 13 (.cons (.var 0) (.cons (.var 1) (.cons (.var 2) (.cons (.var 5) .nil))))) (.bin .mul (.sub (.var 0) (.int 1)) (.bin .sub (.var 3) (.var 5)))) (.var 5)) (.cons (.var 5) .nil)))], .ret (.b1 .min (.peek 4))]
def T_least_at : List KF := [e_asked, e_ahead_of]
@[simp] theorem t_least_at_asked : tbl T_least_at 12 = f_asked := rfl
@[simp] theorem t_least_at_ahead_of : tbl T_least_at 13 = f_ahead_of := rfl
def f_least_at : List D → Mst → R D := runDef (tbl T_least_at) 6 b_least_at
def e_least_at : KF := ⟨"least_at", 14, 4, f_least_at⟩
def b_all_gone : List MS := [.ret (.b1 .tuple (.comp (.sub (.call 14 (.cons (.var 0) (.cons (.var 1) (.cons (.var 3) (.cons (.var 2) .nil))))) (.int 0)) [3] (.rng (.b1 .len (.var 1)))))]
def T_all_gone : List KF := [e_least_at]
@[simp] theorem t_all_gone_least_at : tbl T_all_gone 14 = f_least_at := rfl
def f_all_gone : List D → Mst → R D := runDef (tbl T_all_gone) 4 b_all_gone
def e_all_gone : KF := ⟨"all_gone", 16, 3, f_all_gone⟩
def b_gone : List MS := [.ex (.call 15 (.cons (.var 0) (.cons (.var 1) (.cons (.var 2) .nil)))), .ret (.call 16 (.cons (.var 0) (.cons (.var 1) (.cons (.var 2) .nil))))]
def T_gone : List KF := [e_need_all, e_all_gone]
@[simp] theorem t_gone_need_all : tbl T_gone 15 = f_need_all := rfl
@[simp] theorem t_gone_all_gone : tbl T_gone 16 = f_all_gone := rfl
def f_gone : List D → Mst → R D := runDef (tbl T_gone) 3 b_gone
def e_gone : KF := ⟨"gone", 45, 3, f_gone⟩
def b_row_at : List MS := [.ret (.call 7 (.cons (.var 0) (.cons (.var 1) (.cons (.call 16 (.cons (.var 0) (.cons (.var 1) (.cons (.var 2) .nil)))) .nil))))]
def T_row_at : List KF := [e_moved, e_all_gone]
@[simp] theorem t_row_at_moved : tbl T_row_at 7 = f_moved := rfl
@[simp] theorem t_row_at_all_gone : tbl T_row_at 16 = f_all_gone := rfl
def f_row_at : List D → Mst → R D := runDef (tbl T_row_at) 3 b_row_at
def e_row_at : KF := ⟨"row_at", 17, 3, f_row_at⟩
def b_after : List MS := [.ex (.call 15 (.cons (.var 0) (.cons (.var 1) (.cons (.var 2) .nil)))), .ret (.call 17 (.cons (.var 0) (.cons (.var 1) (.cons (.var 2) .nil))))]
def T_after : List KF := [e_need_all, e_row_at]
@[simp] theorem t_after_need_all : tbl T_after 15 = f_need_all := rfl
@[simp] theorem t_after_row_at : tbl T_after 17 = f_row_at := rfl
def f_after : List D → Mst → R D := runDef (tbl T_after) 3 b_after
def e_after : KF := ⟨"after", 47, 3, f_after⟩
def b_is_room : List MS := [.ret (.cmp .ge (.sub (.var 0) (.int 0)) (.bin .mul (.b1 .len (.var 1)) (.bin .add (.sub (.var 0) (.int 1)) (.int 1))))]
def T_is_room : List KF := []
def f_is_room : List D → Mst → R D := runDef (tbl T_is_room) 2 b_is_room
def e_is_room : KF := ⟨"is_room", 20, 2, f_is_room⟩
def b_has_room : List MS := [.ex (.call 5 (.cons (.var 0) (.cons (.var 1) .nil))), .ret (.call 20 (.cons (.var 0) (.cons (.var 1) .nil)))]
def T_has_room : List KF := [e_need_row, e_is_room]
@[simp] theorem t_has_room_need_row : tbl T_has_room 5 = f_need_row := rfl
@[simp] theorem t_has_room_is_room : tbl T_has_room 20 = f_is_room := rfl
def f_has_room : List D → Mst → R D := runDef (tbl T_has_room) 2 b_has_room
def e_has_room : KF := ⟨"has_room", 64, 2, f_has_room⟩
def b__law_cell : List MS := [.cond (.cmp .eq (.var 0) (.lst .nil)) [.ret (.bin .mul (.var 1) (.int 7919))] [], .ret (.bin .add (.sub (.var 0) (.bin .mod (.var 1) (.b1 .len (.var 0)))) (.bin .mul (.bin .fdiv (.var 1) (.b1 .len (.var 0))) (.int 104729)))]
def T__law_cell : List KF := []
def f__law_cell : List D → Mst → R D := runDef (tbl T__law_cell) 2 b__law_cell
def e__law_cell : KF := ⟨"_law_cell", 32, 2, f__law_cell⟩
def b__law_drawn : List MS := [.set 2 (.bin .mod (.bin .add (.bin .mul (.var 0) (.int 6364136223846793005)) (.bin .mul (.bin .add (.var 1) (.int 1)) (.int 1442695040888963407))) (.int 340282366920938463463374607431768211507)), .set 2 (.bin .mod (.bin .mul (.var 2) (.var 2)) (.int 340282366920938463463374607431768211297)), .set 2 (.bin .mul (.bin .mul (.bin .add (.bin .mod (.var 2) (.int 18446744073709551557)) (.int 1)) (.bin .add (.bin .fdiv (.var 2) (.int 18446744073709551557)) (.int 1))) (.var 2)), .ret (.bin .mod (.var 2) (.int 340282366920938463463374607431768211507))]
def T__law_drawn : List KF := []
def f__law_drawn : List D → Mst → R D := runDef (tbl T__law_drawn) 3 b__law_drawn
def e__law_drawn : KF := ⟨"_law_drawn", 31, 2, f__law_drawn⟩
def b__law_roll : List MS := [.cond (.cmp .ge (.sub (.var 0) (.int 0)) (.bin .pow (.int 10) (.int 18))) [.set 2 (.bin .mod (.sub (.var 0) (.int 0)) (.var 1)), .ri (.var 0) (.int 0) (.bin .fdiv (.sub (.var 0) (.int 0)) (.var 1)), .ret (.var 2)] [], .ri (.var 0) (.int 1) (.bin .add (.sub (.var 0) (.int 1)) (.int 1)), .ret (.bin .mod (.bin .fdiv (.call 31 (.cons (.sub (.var 0) (.int 0)) (.cons (.sub (.var 0) (.int 1)) .nil))) (.int 8)) (.var 1))]
def T__law_roll : List KF := [e__law_drawn]
@[simp] theorem t__law_roll__law_drawn : tbl T__law_roll 31 = f__law_drawn := rfl
def f__law_roll : List D → Mst → R D := runDef (tbl T__law_roll) 3 b__law_roll
def e__law_roll : KF := ⟨"_law_roll", 33, 2, f__law_roll⟩
def b__law_rounds : List MS := [.ret (.comp (.new (.cons (.call 32 (.cons (.var 0) (.cons (.var 2) .nil))) (.cons (.int 0) .nil))) [2] (.rng (.b2 .max (.int 1) (.b2 .min (.var 1) (.b1 .len (.var 0))))))]
def T__law_rounds : List KF := [e__law_cell]
@[simp] theorem t__law_rounds__law_cell : tbl T__law_rounds 32 = f__law_cell := rfl
def f__law_rounds : List D → Mst → R D := runDef (tbl T__law_rounds) 3 b__law_rounds
def e__law_rounds : KF := ⟨"_law_rounds", 37, 2, f__law_rounds⟩
def b__law_any_ring : List MS := [.ret (.tup (.cons (.bin .add (.int 4) (.call 33 (.cons (.var 0) (.cons (.bin .sub (.var 1) (.int 3)) .nil)))) (.cons (.bin .add (.int 1) (.call 33 (.cons (.var 0) (.cons (.int 3) .nil)))) .nil)))]
def T__law_any_ring : List KF := [e__law_roll]
@[simp] theorem t__law_any_ring__law_roll : tbl T__law_any_ring 33 = f__law_roll := rfl
def f__law_any_ring : List D → Mst → R D := runDef (tbl T__law_any_ring) 2 b__law_any_ring
def e__law_any_ring : KF := ⟨"_law_any_ring", 38, 2, f__law_any_ring⟩
def b__law_any_row : List MS := [.asT [3, 4] (.tup (.cons (.call 33 (.cons (.var 0) (.cons (.int 4) .nil))) (.cons (.sub (.var 1) (.int 0)) .nil))), .set 2 (.compIf (.var 5) [5] (.rng (.var 4)) (.cmp .eq (.call 33 (.cons (.var 0) (.cons (.sub (.lst (.cons (.int 2) (.cons (.int 3) (.cons (.int 5) (.cons (.int 4) .nil))))) (.var 3)) .nil))) (.int 0))), .cond (.cmp .eq (.var 3) (.int 3)) [.set 2 (.bin .add (.lrg (.rng (.bin .add (.bin .fdiv (.call 33 (.cons (.var 0) (.cons (.var 4) .nil))) (.int 2)) (.int 1)))) (.compIf (.var 5) [5] (.seq (.var 2)) (.cmp .gt (.bin .mul (.int 2) (.var 5)) (.var 4))))] [], .set 2 (.ite (.cmp .ne (.var 2) (.lst .nil)) (.var 2) (.lst (.cons (.call 33 (.cons (.var 0) (.cons (.var 4) .nil))) .nil))), .ret (.b1 .tuple (.b1 .sset (.var 2)))]
def T__law_any_row : List KF := [e__law_roll]
@[simp] theorem t__law_any_row__law_roll : tbl T__law_any_row 33 = f__law_roll := rfl
def f__law_any_row : List D → Mst → R D := runDef (tbl T__law_any_row) 6 b__law_any_row
def e__law_any_row : KF := ⟨"_law_any_row", 39, 2, f__law_any_row⟩
def b__law_step : List MS := [.own 2 (.lst .nil), .loop [3, 4] (.enum (.var 1)) [.set 5 (.ite (.cmp .lt (.bin .add (.var 3) (.int 1)) (.b1 .len (.var 1))) (.sub (.var 1) (.bin .add (.var 3) (.int 1))) (.bin .add (.sub (.var 1) (.int 0)) (.sub (.var 0) (.int 0)))), .set 6 (.var 4), .whl 1000000 (.and (.cmp .lt (.bin .sub (.var 6) (.var 4)) (.sub (.var 0) (.int 1))) (.cmp .lt (.bin .add (.var 6) (.int 1)) (.var 5))) [.set 6 (.bin .add (.var 6) (.int 1))], .app 2 (.var 6)], .frz 2, .ret (.var 2)]
def T__law_step : List KF := []
def f__law_step : List D → Mst → R D := runDef (tbl T__law_step) 7 b__law_step
def e__law_step : KF := ⟨"_law_step", 42, 2, f__law_step⟩
def b__law_as_row : List MS := [.ret (.b1 .tuple (.b1 .sorted (.comp (.bin .mod (.var 2) (.sub (.var 0) (.int 0))) [2] (.seq (.var 1)))))]
def T__law_as_row : List KF := []
def f__law_as_row : List D → Mst → R D := runDef (tbl T__law_as_row) 3 b__law_as_row
def e__law_as_row : KF := ⟨"_law_as_row", 41, 2, f__law_as_row⟩
def b__law_low : List MS := [.par [2, 3] [false, false] (.cons (.var 0) (.cons (.var 1) .nil)), .whl 1000000 (.cmp .ne (.var 3) (.int 0)) [.par [2, 3] [false, false] (.cons (.var 3) (.cons (.bin .mod (.var 2) (.var 3)) .nil))], .ret (.tup (.cons (.bin .fdiv (.var 0) (.var 2)) (.cons (.bin .fdiv (.var 1) (.var 2)) .nil)))]
def T__law_low : List KF := []
def f__law_low : List D → Mst → R D := runDef (tbl T__law_low) 4 b__law_low
def e__law_low : KF := ⟨"_law_low", 63, 2, f__law_low⟩
def b__law_marks : List MS := [.own 2 (.lst .nil), .loop [3, 4] (.zip (.var 1) (.slc (.var 1) (.some (.int 1)) .no)) [.set 5 (.bin .add (.slc (.var 3) (.some (.int 1)) .no) (.lst (.cons (.bin .add (.sub (.var 3) (.int 0)) (.sub (.var 0) (.int 0))) .nil))), .set 6 (.cmp .eq (.compIf (.int 1) [8, 9] (.zip (.var 3) (.var 4)) (.cmp .ne (.bin .sub (.var 9) (.var 8)) (.sub (.var 0) (.int 1)))) (.lst .nil)), .set 7 (.cmp .eq (.compIf (.int 1) [10, 9] (.zip (.var 5) (.var 4)) (.cmp .ne (.var 9) (.bin .sub (.var 10) (.int 1)))) (.lst .nil)), .app 2 (.ite (.var 6) (.str "runs") (.ite (.var 7) (.str "backs") (.str "neither")))], .frz 2, .ret (.var 2)]
def T__law_marks : List KF := []
def f__law_marks : List D → Mst → R D := runDef (tbl T__law_marks) 11 b__law_marks
def e__law_marks : KF := ⟨"_law_marks", 58, 2, f__law_marks⟩
def b_need_many : List MS := [.ex (.call 3 (.cons (.var 0) .nil)), .cond (.not (.call 1 (.cons (.var 1) (.cons (.int 1) (.cons (.sub (.var 0) (.int 0)) .nil))))) [.rai 2] []]
def T_need_many : List KF := [e_need_ring, e_is_whole]
@[simp] theorem t_need_many_need_ring : tbl T_need_many 3 = f_need_ring := rfl
@[simp] theorem t_need_many_is_whole : tbl T_need_many 1 = f_is_whole := rfl
def f_need_many : List D → Mst → R D := runDef (tbl T_need_many) 2 b_need_many
def e_need_many : KF := ⟨"need_many", 88, 2, f_need_many⟩
def b_flow_of : List MS := [.ret (.b2 .min (.bin .mul (.sub (.var 0) (.int 1)) (.var 1)) (.bin .sub (.sub (.var 0) (.int 0)) (.var 1)))]
def T_flow_of : List KF := []
def f_flow_of : List D → Mst → R D := runDef (tbl T_flow_of) 2 b_flow_of
def e_flow_of : KF := ⟨"flow_of", 89, 2, f_flow_of⟩
def b_flow : List MS := [.ex (.call 88 (.cons (.var 0) (.cons (.var 1) .nil))), .ret (.call 89 (.cons (.var 0) (.cons (.var 1) .nil)))]
def T_flow : List KF := [e_need_many, e_flow_of]
@[simp] theorem t_flow_need_many : tbl T_flow 88 = f_need_many := rfl
@[simp] theorem t_flow_flow_of : tbl T_flow 89 = f_flow_of := rfl
def f_flow : List D → Mst → R D := runDef (tbl T_flow) 2 b_flow
def e_flow : KF := ⟨"flow", 90, 2, f_flow⟩
def b_best_many : List MS := [.ex (.call 3 (.cons (.var 0) .nil)), .asT [1, 2] (.b1 .max (.comp (.tup (.cons (.call 89 (.cons (.var 0) (.cons (.var 3) .nil))) (.cons (.neg (.var 3)) .nil))) [3] (.rng2 (.int 1) (.bin .add (.sub (.var 0) (.int 0)) (.int 1))))), .ret (.tup (.cons (.var 1) (.cons (.neg (.var 2)) .nil)))]
def T_best_many : List KF := [e_need_ring, e_flow_of]
@[simp] theorem t_best_many_need_ring : tbl T_best_many 3 = f_need_ring := rfl
@[simp] theorem t_best_many_flow_of : tbl T_best_many 89 = f_flow_of := rfl
def f_best_many : List D → Mst → R D := runDef (tbl T_best_many) 4 b_best_many
def e_best_many : KF := ⟨"best_many", 91, 1, f_best_many⟩
def b_need_cell : List MS := [.cond (.not (.call 1 (.cons (.var 1) (.cons (.int 0) (.cons (.bin .sub (.sub (.var 0) (.int 0)) (.int 1)) .nil))))) [.rai 3] []]
def T_need_cell : List KF := [e_is_whole]
@[simp] theorem t_need_cell_is_whole : tbl T_need_cell 1 = f_is_whole := rfl
def f_need_cell : List D → Mst → R D := runDef (tbl T_need_cell) 2 b_need_cell
def e_need_cell : KF := ⟨"need_cell", 18, 2, f_need_cell⟩
def b_passed_by : List MS := [.set 4 (.int 0), .loop [5, 6] (.zip (.var 1) (.call 16 (.cons (.var 0) (.cons (.var 1) (.cons (.var 3) .nil))))) [.set 4 (.bin .sub (.bin .add (.var 4) (.bin .fdiv (.bin .sub (.bin .sub (.bin .add (.var 5) (.var 6)) (.var 2)) (.int 1)) (.sub (.var 0) (.int 0)))) (.bin .fdiv (.bin .sub (.bin .sub (.var 5) (.var 2)) (.int 1)) (.sub (.var 0) (.int 0))))], .ret (.var 4)]
def T_passed_by : List KF := [e_all_gone]
@[simp] theorem t_passed_by_all_gone : tbl T_passed_by 16 = f_all_gone := rfl
def f_passed_by : List D → Mst → R D := runDef (tbl T_passed_by) 7 b_passed_by
def e_passed_by : KF := ⟨"passed_by", 79, 4, f_passed_by⟩
def b_heard_by : List MS := [.ex (.call 5 (.cons (.var 0) (.cons (.var 1) .nil))), .ex (.call 18 (.cons (.var 0) (.cons (.var 2) .nil))), .ex (.call 11 (.cons (.var 3) .nil)), .ret (.call 79 (.cons (.var 0) (.cons (.var 1) (.cons (.var 2) (.cons (.var 3) .nil)))))]
def T_heard_by : List KF := [e_need_row, e_need_cell, e_need_moment, e_passed_by]
@[simp] theorem t_heard_by_need_row : tbl T_heard_by 5 = f_need_row := rfl
@[simp] theorem t_heard_by_need_cell : tbl T_heard_by 18 = f_need_cell := rfl
@[simp] theorem t_heard_by_need_moment : tbl T_heard_by 11 = f_need_moment := rfl
@[simp] theorem t_heard_by_passed_by : tbl T_heard_by 79 = f_passed_by := rfl
def f_heard_by : List D → Mst → R D := runDef (tbl T_heard_by) 4 b_heard_by
def e_heard_by : KF := ⟨"heard_by", 80, 4, f_heard_by⟩
def b__law_walk : List MS := [.own 3 (.lst (.cons (.b1 .list (.var 1)) .nil)), .loop [4] (.rng (.var 2)) [.app 3 (.call 42 (.cons (.var 0) (.cons (.sub (.peek 3) (.neg (.int 1))) .nil)))], .frz 3, .ret (.var 3)]
def T__law_walk : List KF := [e__law_step]
@[simp] theorem t__law_walk__law_step : tbl T__law_walk 42 = f__law_step := rfl
def f__law_walk : List D → Mst → R D := runDef (tbl T__law_walk) 5 b__law_walk
def e__law_walk : KF := ⟨"_law_walk", 49, 3, f__law_walk⟩
def b_held : List MS := [.ex (.call 15 (.cons (.var 0) (.cons (.var 1) (.cons (.var 2) .nil)))), .ret (.b1 .tuple (.comp (.bin .sub (.bin .mul (.sub (.var 0) (.int 1)) (.var 2)) (.var 3)) [3] (.seq (.call 16 (.cons (.var 0) (.cons (.var 1) (.cons (.var 2) .nil)))))))]
def T_held : List KF := [e_need_all, e_all_gone]
@[simp] theorem t_held_need_all : tbl T_held 15 = f_need_all := rfl
@[simp] theorem t_held_all_gone : tbl T_held 16 = f_all_gone := rfl
def f_held : List D → Mst → R D := runDef (tbl T_held) 4 b_held
def e_held : KF := ⟨"held", 48, 3, f_held⟩
def b_held_by : List MS := [.ex (.call 15 (.cons (.var 0) (.cons (.var 1) (.cons (.var 2) .nil)))), .ret (.b1 .tuple (.comp (.sub (.call 14 (.cons (.var 0) (.cons (.var 1) (.cons (.var 3) (.cons (.var 2) .nil))))) (.int 1)) [3] (.rng (.b1 .len (.var 1)))))]
def T_held_by : List KF := [e_need_all, e_least_at]
@[simp] theorem t_held_by_need_all : tbl T_held_by 15 = f_need_all := rfl
@[simp] theorem t_held_by_least_at : tbl T_held_by 14 = f_least_at := rfl
def f_held_by : List D → Mst → R D := runDef (tbl T_held_by) 4 b_held_by
def e_held_by : KF := ⟨"held_by", 44, 3, f_held_by⟩
def b__law_ahead : List MS := [.set 4 (.lst .nil), .loop [5] (.rng (.bin .add (.bin .fdiv (.bin .add (.var 2) (.var 3)) (.b1 .len (.var 1))) (.int 1))) [.set 4 (.bin .add (.var 4) (.comp (.bin .add (.var 6) (.bin .mul (.var 5) (.sub (.var 0) (.int 0)))) [6] (.seq (.var 1))))], .ret (.bin .sub (.sub (.var 4) (.bin .add (.var 2) (.var 3))) (.sub (.var 1) (.var 2)))]
def T__law_ahead : List KF := []
def f__law_ahead : List D → Mst → R D := runDef (tbl T__law_ahead) 7 b__law_ahead
def e__law_ahead : KF := ⟨"_law_ahead", 50, 4, f__law_ahead⟩
def b__law_way : List MS := [.set 5 (.bin .add (.var 2) (.var 3)), .set 6 (.bin .sub (.bin .add (.bin .mul (.bin .fdiv (.var 5) (.b1 .len (.var 1))) (.sub (.var 0) (.int 0))) (.sub (.var 1) (.bin .mod (.var 5) (.b1 .len (.var 1))))) (.sub (.var 1) (.var 2))), .ret (.bin .sub (.bin .add (.var 6) (.bin .mul (.sub (.var 0) (.int 1)) (.bin .sub (.var 4) (.var 3)))) (.var 3))]
def T__law_way : List KF := []
def f__law_way : List D → Mst → R D := runDef (tbl T__law_way) 7 b__law_way
def e__law_way : KF := ⟨"_law_way", 46, 5, f__law_way⟩
def b__law_far_held_by : List MS := [.par [4, 5, 6] [false, false, false] (.cons (.call 45 (.cons (.var 0) (.cons (.var 1) (.cons (.var 2) .nil)))) (.cons (.call 44 (.cons (.var 0) (.cons (.var 1) (.cons (.var 2) .nil)))) (.cons (.b1 .len (.var 1)) .nil))), .loop [3] (.rng (.var 6)) [.cond (.or (.not (.chn .le .le (.int 0) (.sub (.var 5) (.var 3)) (.var 2))) (.cmp .ne (.call 46 (.cons (.var 0) (.cons (.var 1) (.cons (.var 3) (.cons (.sub (.var 5) (.var 3)) (.cons (.var 2) .nil)))))) (.sub (.var 4) (.var 3)))) [.ret (.bl false)] [], .loop [7] (.seq (.bin .add (.lrg (.rng2 (.b2 .max (.int 0) (.bin .sub (.sub (.var 5) (.var 3)) (.bin .mul (.int 2) (.var 6)))) (.sub (.var 5) (.var 3)))) (.lrg (.rng (.var 6))))) [.set 8 (.call 46 (.cons (.var 0) (.cons (.var 1) (.cons (.var 3) (.cons (.var 7) (.cons (.var 2) .nil)))))), .cond (.or (.cmp .lt (.var 8) (.sub (.var 4) (.var 3))) (.and (.cmp .lt (.var 7) (.sub (.var 5) (.var 3))) (.cmp .eq (.var 8) (.sub (.var 4) (.var 3))))) [.ret (.bl false)] []]], .ret (.bl true)]
def T__law_far_held_by : List KF := [e_held_by, e_gone, e__law_way]
@[simp] theorem t__law_far_held_by_held_by : tbl T__law_far_held_by 44 = f_held_by := rfl
@[simp] theorem t__law_far_held_by_gone : tbl T__law_far_held_by 45 = f_gone := rfl
@[simp] theorem t__law_far_held_by__law_way : tbl T__law_far_held_by 46 = f__law_way := rfl
def f__law_far_held_by : List D → Mst → R D := runDef (tbl T__law_far_held_by) 9 b__law_far_held_by
def e__law_far_held_by : KF := ⟨"_law_far_held_by", 51, 3, f__law_far_held_by⟩
def b__law_moments_refused : List MS := [.loop [2] (.seq (.lst (.cons (.neg (.int 1)) (.cons (.bin .add (.bin .pow (.int 10) (.int 18)) (.int 1)) (.cons (.bl true) (.cons .non (.cons (.str "1") .nil))))))) [.own 3 (.lst (.cons (.told 34 (.call 45 (.cons (.var 0) (.cons (.var 1) (.cons (.var 2) .nil))))) .nil)), .app 3 (.told 34 (.call 47 (.cons (.var 0) (.cons (.var 1) (.cons (.var 2) .nil))))), .app 3 (.told 34 (.call 48 (.cons (.var 0) (.cons (.var 1) (.cons (.var 2) .nil))))), .cond (.cmp .ne (.bin .add (.peek 3) (.lst (.cons (.told 34 (.call 44 (.cons (.var 0) (.cons (.var 1) (.cons (.var 2) .nil))))) .nil))) (.bin .mul (.lst (.cons (.tup (.cons (.str "refused") (.cons (.str "BadNumber") .nil))) .nil)) (.int 4))) [.ret (.bl false)] []], .ret (.bl true)]
def T__law_moments_refused : List KF := [e_gone, e_after, e_held, e_held_by]
@[simp] theorem t__law_moments_refused_gone : tbl T__law_moments_refused 45 = f_gone := rfl
@[simp] theorem t__law_moments_refused_after : tbl T__law_moments_refused 47 = f_after := rfl
@[simp] theorem t__law_moments_refused_held : tbl T__law_moments_refused 48 = f_held := rfl
@[simp] theorem t__law_moments_refused_held_by : tbl T__law_moments_refused 44 = f_held_by := rfl
def f__law_moments_refused : List D → Mst → R D := runDef (tbl T__law_moments_refused) 4 b__law_moments_refused
def e__law_moments_refused : KF := ⟨"_law_moments_refused", 52, 2, f__law_moments_refused⟩
def b_need_room : List MS := [.ex (.call 5 (.cons (.var 0) (.cons (.var 1) .nil))), .cond (.not (.call 20 (.cons (.var 0) (.cons (.var 1) .nil)))) [.rai 6] []]
def T_need_room : List KF := [e_need_row, e_is_room]
@[simp] theorem t_need_room_need_row : tbl T_need_room 5 = f_need_row := rfl
@[simp] theorem t_need_room_is_room : tbl T_need_room 20 = f_is_room := rfl
def f_need_room : List D → Mst → R D := runDef (tbl T_need_room) 2 b_need_room
def e_need_room : KF := ⟨"need_room", 21, 2, f_need_room⟩
def b_depth_of : List MS := [.ret (.b1 .max (.comp (.bin .sub (.bin .mul (.bin .add (.sub (.var 0) (.int 1)) (.int 1)) (.var 3)) (.call 13 (.cons (.var 0) (.cons (.var 1) (.cons (.var 2) (.cons (.var 3) .nil)))))) [3] (.rng (.b1 .len (.var 1)))))]
def T_depth_of : List KF := [e_ahead_of]
@[simp] theorem t_depth_of_ahead_of : tbl T_depth_of 13 = f_ahead_of := rfl
def f_depth_of : List D → Mst → R D := runDef (tbl T_depth_of) 4 b_depth_of
def e_depth_of : KF := ⟨"depth_of", 66, 3, f_depth_of⟩
def b_deep : List MS := [.ex (.call 21 (.cons (.var 0) (.cons (.var 1) .nil))), .ret (.b1 .tuple (.comp (.call 66 (.cons (.var 0) (.cons (.var 1) (.cons (.var 2) .nil)))) [2] (.rng (.b1 .len (.var 1)))))]
def T_deep : List KF := [e_need_room, e_depth_of]
@[simp] theorem t_deep_need_room : tbl T_deep 21 = f_need_room := rfl
@[simp] theorem t_deep_depth_of : tbl T_deep 66 = f_depth_of := rfl
def f_deep : List D → Mst → R D := runDef (tbl T_deep) 3 b_deep
def e_deep : KF := ⟨"deep", 68, 2, f_deep⟩
def b_last_held : List MS := [.ex (.call 21 (.cons (.var 0) (.cons (.var 1) .nil))), .asT [2, 3, 4] (.tup (.cons (.bin .mul (.lst (.cons .non .nil)) (.b1 .len (.var 1))) (.cons (.b1 .list (.var 1)) (.cons (.int 0) .nil)))), .whl 1000000 (.not (.call 53 (.cons (.var 0) (.cons (.b1 .tuple (.b1 .sorted (.comp (.bin .mod (.var 11) (.sub (.var 0) (.int 0))) [11] (.seq (.var 3))))) .nil)))) [.set 5 (.bin .add (.slc (.var 3) (.some (.int 1)) .no) (.lst (.cons (.bin .add (.sub (.var 3) (.int 0)) (.sub (.var 0) (.int 0))) .nil))), .set 6 (.comp (.b2 .min (.sub (.var 0) (.int 1)) (.bin .sub (.bin .sub (.var 8) (.var 7)) (.int 1))) [7, 8] (.zip (.var 3) (.var 5))), .set 2 (.comp (.ite (.cmp .lt (.var 9) (.sub (.var 0) (.int 1))) (.var 4) (.var 10)) [9, 10] (.zip (.var 6) (.var 2))), .set 3 (.comp (.bin .add (.var 11) (.var 9)) [11, 9] (.zip (.var 3) (.var 6))), .set 4 (.bin .add (.var 4) (.int 1))], .ret (.b1 .tuple (.var 2))]
def T_last_held : List KF := [e_need_room, e_does_run]
@[simp] theorem t_last_held_need_room : tbl T_last_held 21 = f_need_room := rfl
@[simp] theorem t_last_held_does_run : tbl T_last_held 53 = f_does_run := rfl
def f_last_held : List D → Mst → R D := runDef (tbl T_last_held) 12 b_last_held
def e_last_held : KF := ⟨"last_held", 69, 2, f_last_held⟩
def b__law_mates : List MS := [.par [3, 4, 5] [true, false, false] (.cons (.lst .nil) (.cons (.int 0) (.cons (.sub (.var 1) (.var 2)) .nil))), .whl 1000000 (.cmp .lt (.b1 .len (.peek 3)) (.sub (.var 0) (.int 1))) [.set 5 (.bin .add (.var 5) (.int 1)), .cond (.cmp .inn (.bin .mod (.var 5) (.sub (.var 0) (.int 0))) (.var 1)) [.set 4 (.bin .add (.var 4) (.sub (.var 0) (.int 1)))] [.cond (.cmp .gt (.var 4) (.int 0)) [.set 4 (.bin .sub (.var 4) (.int 1))] [.app 3 (.bin .mod (.var 5) (.sub (.var 0) (.int 0)))]]], .ret (.b1 .tuple (.peek 3))]
def T__law_mates : List KF := []
def f__law_mates : List D → Mst → R D := runDef (tbl T__law_mates) 6 b__law_mates
def e__law_mates : KF := ⟨"_law_mates", 71, 3, f__law_mates⟩
def b_heard_now : List MS := [.set 3 (.call 8 (.cons (.var 0) (.cons (.var 1) .nil))), .ret (.b1 .len (.compIf (.var 4) [4, 5] (.zip (.var 1) (.var 3)) (.cmp .lt (.bin .mod (.bin .sub (.var 2) (.var 4)) (.sub (.var 0) (.int 0))) (.var 5))))]
def T_heard_now : List KF := [e_goings]
@[simp] theorem t_heard_now_goings : tbl T_heard_now 8 = f_goings := rfl
def f_heard_now : List D → Mst → R D := runDef (tbl T_heard_now) 6 b_heard_now
def e_heard_now : KF := ⟨"heard_now", 19, 3, f_heard_now⟩
def b_heard : List MS := [.ex (.call 5 (.cons (.var 0) (.cons (.var 1) .nil))), .ex (.call 18 (.cons (.var 0) (.cons (.var 2) .nil))), .cond (.not (.call 1 (.cons (.var 3) (.cons (.int 0) (.cons (.int 100) .nil))))) [.rai 2] [], .own 4 (.lst .nil), .loop [5] (.rng (.var 3)) [.app 4 (.call 19 (.cons (.var 0) (.cons (.var 1) (.cons (.var 2) .nil)))), .set 1 (.call 9 (.cons (.var 0) (.cons (.var 1) .nil)))], .frz 4, .ret (.var 4)]
def T_heard : List KF := [e_need_row, e_need_cell, e_is_whole, e_heard_now, e_next_row]
@[simp] theorem t_heard_need_row : tbl T_heard 5 = f_need_row := rfl
@[simp] theorem t_heard_need_cell : tbl T_heard 18 = f_need_cell := rfl
@[simp] theorem t_heard_is_whole : tbl T_heard 1 = f_is_whole := rfl
@[simp] theorem t_heard_heard_now : tbl T_heard 19 = f_heard_now := rfl
@[simp] theorem t_heard_next_row : tbl T_heard 9 = f_next_row := rfl
def f_heard : List D → Mst → R D := runDef (tbl T_heard) 6 b_heard
def e_heard : KF := ⟨"heard", 81, 4, f_heard⟩
def b_unlike : List MS := [.ex (.call 5 (.cons (.var 0) (.cons (.var 1) .nil))), .ex (.call 5 (.cons (.var 0) (.cons (.var 2) .nil))), .ex (.call 18 (.cons (.var 0) (.cons (.var 3) .nil))), .par [5, 6] [false, false] (.cons (.call 56 (.cons (.var 0) (.cons (.var 1) .nil))) (.cons (.call 56 (.cons (.var 0) (.cons (.var 2) .nil))) .nil)), .loop [4] (.rng (.bin .add (.b2 .max (.sub (.var 5) (.int 0)) (.sub (.var 6) (.int 0))) (.bin .mul (.sub (.var 5) (.int 1)) (.sub (.var 6) (.int 1))))) [.cond (.cmp .ne (.call 19 (.cons (.var 0) (.cons (.var 1) (.cons (.var 3) .nil)))) (.call 19 (.cons (.var 0) (.cons (.var 2) (.cons (.var 3) .nil))))) [.ret (.var 4)] [], .par [1, 2] [false, false] (.cons (.call 9 (.cons (.var 0) (.cons (.var 1) .nil))) (.cons (.call 9 (.cons (.var 0) (.cons (.var 2) .nil))) .nil))], .ret .non]
def T_unlike : List KF := [e_need_row, e_need_cell, e_round_at, e_heard_now, e_next_row]
@[simp] theorem t_unlike_need_row : tbl T_unlike 5 = f_need_row := rfl
@[simp] theorem t_unlike_need_cell : tbl T_unlike 18 = f_need_cell := rfl
@[simp] theorem t_unlike_round_at : tbl T_unlike 56 = f_round_at := rfl
@[simp] theorem t_unlike_heard_now : tbl T_unlike 19 = f_heard_now := rfl
@[simp] theorem t_unlike_next_row : tbl T_unlike 9 = f_next_row := rfl
def f_unlike : List D → Mst → R D := runDef (tbl T_unlike) 7 b_unlike
def e_unlike : KF := ⟨"unlike", 82, 4, f_unlike⟩
def b__law_passes : List MS := [.set 4 (.int 0), .loop [5, 6] (.zip (.var 1) (.var 2)) [.set 4 (.bin .add (.var 4) (.b1 .len (.compIf (.int 1) [7] (.rng2 (.var 5) (.var 6)) (.cmp .eq (.bin .mod (.var 7) (.sub (.var 0) (.int 0))) (.var 3)))))], .ret (.var 4)]
def T__law_passes : List KF := []
def f__law_passes : List D → Mst → R D := runDef (tbl T__law_passes) 8 b__law_passes
def e__law_passes : KF := ⟨"_law_passes", 95, 4, f__law_passes⟩
def b__law_gates_refused : List MS := [.loop [4] (.seq (.lst (.cons (.neg (.int 1)) (.cons (.sub (.var 0) (.int 0)) (.cons (.bl true) (.cons .non (.cons (.str "0") .nil))))))) [.own 5 (.lst (.cons (.told 34 (.call 81 (.cons (.var 0) (.cons (.var 1) (.cons (.var 4) (.cons .non .nil)))))) .nil)), .app 5 (.told 34 (.call 80 (.cons (.var 0) (.cons (.var 1) (.cons (.var 4) (.cons .non .nil)))))), .cond (.cmp .ne (.bin .add (.peek 5) (.lst (.cons (.told 34 (.call 82 (.cons (.var 0) (.cons (.var 1) (.cons (.var 2) (.cons (.var 4) .nil)))))) .nil))) (.bin .mul (.lst (.cons (.tup (.cons (.str "refused") (.cons (.str "BadCell") .nil))) .nil)) (.int 3))) [.ret (.bl false)] []], .loop [4] (.seq (.lst (.cons (.neg (.int 1)) (.cons (.int 101) (.cons (.bl true) (.cons .non .nil)))))) [.cond (.cmp .ne (.told 34 (.call 81 (.cons (.var 0) (.cons (.var 1) (.cons (.var 3) (.cons (.var 4) .nil)))))) (.tup (.cons (.str "refused") (.cons (.str "BadNumber") .nil)))) [.ret (.bl false)] []], .loop [4] (.seq (.lst (.cons (.neg (.int 1)) (.cons (.bin .add (.bin .pow (.int 10) (.int 18)) (.int 1)) (.cons (.bl true) (.cons .non .nil)))))) [.cond (.cmp .ne (.told 34 (.call 80 (.cons (.var 0) (.cons (.var 1) (.cons (.var 3) (.cons (.var 4) .nil)))))) (.tup (.cons (.str "refused") (.cons (.str "BadNumber") .nil)))) [.ret (.bl false)] []], .ret (.bl true)]
def T__law_gates_refused : List KF := [e_heard, e_heard_by, e_unlike]
@[simp] theorem t__law_gates_refused_heard : tbl T__law_gates_refused 81 = f_heard := rfl
@[simp] theorem t__law_gates_refused_heard_by : tbl T__law_gates_refused 80 = f_heard_by := rfl
@[simp] theorem t__law_gates_refused_unlike : tbl T__law_gates_refused 82 = f_unlike := rfl
def f__law_gates_refused : List D → Mst → R D := runDef (tbl T__law_gates_refused) 6 b__law_gates_refused
def e__law_gates_refused : KF := ⟨"_law_gates_refused", 96, 4, f__law_gates_refused⟩
def b_all_later : List MS := [.set 4 (.b1 .tuple (.b1 .sorted (.bin .add (.var 1) (.tup (.cons (.var 2) .nil))))), .set 5 (.compIf (.var 7) [6, 7] (.zip (.var 4) (.call 16 (.cons (.var 0) (.cons (.var 4) (.cons (.var 3) .nil))))) (.cmp .ne (.var 6) (.var 2))), .ret (.b1 .tuple (.comp (.bin .sub (.var 8) (.var 7)) [8, 7] (.zip (.call 16 (.cons (.var 0) (.cons (.var 1) (.cons (.var 3) .nil)))) (.var 5))))]
def T_all_later : List KF := [e_all_gone]
@[simp] theorem t_all_later_all_gone : tbl T_all_later 16 = f_all_gone := rfl
def f_all_later : List D → Mst → R D := runDef (tbl T_all_later) 9 b_all_later
def e_all_later : KF := ⟨"all_later", 23, 4, f_all_later⟩
def b_later : List MS := [.ex (.call 5 (.cons (.var 0) (.cons (.var 1) .nil))), .cond (.or (.not (.call 1 (.cons (.var 2) (.cons (.int 0) (.cons (.bin .sub (.sub (.var 0) (.int 0)) (.int 1)) .nil))))) (.cmp .inn (.var 2) (.var 1))) [.rai 3] [], .ex (.call 11 (.cons (.var 3) .nil)), .ret (.call 23 (.cons (.var 0) (.cons (.var 1) (.cons (.var 2) (.cons (.var 3) .nil)))))]
def T_later : List KF := [e_need_row, e_is_whole, e_need_moment, e_all_later]
@[simp] theorem t_later_need_row : tbl T_later 5 = f_need_row := rfl
@[simp] theorem t_later_is_whole : tbl T_later 1 = f_is_whole := rfl
@[simp] theorem t_later_need_moment : tbl T_later 11 = f_need_moment := rfl
@[simp] theorem t_later_all_later : tbl T_later 23 = f_all_later := rfl
def f_later : List D → Mst → R D := runDef (tbl T_later) 4 b_later
def e_later : KF := ⟨"later", 84, 4, f_later⟩
def b_worst : List MS := [.ex (.call 15 (.cons (.var 0) (.cons (.var 1) (.cons (.var 2) .nil)))), .set 3 (.compIf (.var 6) [6] (.rng (.sub (.var 0) (.int 0))) (.cmp .nin (.var 6) (.var 1))), .cond (.cmp .eq (.var 3) (.lst .nil)) [.rai 6] [], .asT [4, 5] (.b1 .max (.comp (.tup (.cons (.b1 .sum (.call 23 (.cons (.var 0) (.cons (.var 1) (.cons (.var 6) (.cons (.var 2) .nil)))))) (.cons (.neg (.var 6)) .nil))) [6] (.seq (.var 3)))), .ret (.tup (.cons (.var 4) (.cons (.neg (.var 5)) .nil)))]
def T_worst : List KF := [e_need_all, e_all_later]
@[simp] theorem t_worst_need_all : tbl T_worst 15 = f_need_all := rfl
@[simp] theorem t_worst_all_later : tbl T_worst 23 = f_all_later := rfl
def f_worst : List D → Mst → R D := runDef (tbl T_worst) 7 b_worst
def e_worst : KF := ⟨"worst", 85, 3, f_worst⟩
def b__law_less : List MS := [.set 4 (.b1 .tuple (.b1 .sorted (.bin .add (.var 1) (.tup (.cons (.var 2) .nil))))), .par [6, 7] [false, false] (.cons (.sub (.call 49 (.cons (.var 0) (.cons (.var 4) (.cons (.var 3) .nil)))) (.neg (.int 1))) (.cons (.sub (.call 49 (.cons (.var 0) (.cons (.var 1) (.cons (.var 3) .nil)))) (.neg (.int 1))) .nil)), .set 5 (.compIf (.var 8) [8, 9] (.zip (.var 6) (.var 4)) (.cmp .ne (.var 9) (.var 2))), .ret (.b1 .tuple (.comp (.bin .sub (.var 10) (.var 11)) [10, 11] (.zip (.var 7) (.var 5))))]
def T__law_less : List KF := [e__law_walk]
@[simp] theorem t__law_less__law_walk : tbl T__law_less 49 = f__law_walk := rfl
def f__law_less : List D → Mst → R D := runDef (tbl T__law_less) 12 b__law_less
def e__law_less : KF := ⟨"_law_less", 83, 4, f__law_less⟩
def b_goes_before : List MS := [.cond (.cmp .gt (.var 2) (.var 1)) [.ret (.lst .nil)] [], .ret (.ite (.cmp .eq (.var 2) (.var 1)) (.lrg (.rng (.bin .add (.var 0) (.int 1)))) (.lst (.cons (.var 0) .nil)))]
def T_goes_before : List KF := []
def f_goes_before : List D → Mst → R D := runDef (tbl T_goes_before) 3 b_goes_before
def e_goes_before : KF := ⟨"goes_before", 72, 3, f_goes_before⟩
def b_count_of : List MS := [.par [3, 4] [false, false] (.cons (.int 0) (.cons (.call 6 (.cons (.var 0) (.cons (.var 1) .nil))) .nil)), .loop [2] (.rng (.bin .add (.sub (.var 0) (.int 1)) (.int 1))) [.dsg 5 (.var 2) (.int 1), .loop [6] (.seq (.rev (.var 4))) [.dnew 7 false, .loop [8] (.keys 5) [.loop [9] (.seq (.call 72 (.cons (.sub (.var 0) (.int 1)) (.cons (.var 6) (.cons (.var 8) .nil))))) [.dset 7 (.var 9) (.bin .add (.dgetd 7 (.var 9) (.int 0)) (.dget 5 (.var 8)))]], .mv 5 7], .set 3 (.bin .add (.var 3) (.dgetd 5 (.var 2) (.int 0)))], .ret (.var 3)]
def T_count_of : List KF := [e_all_gaps, e_goes_before]
@[simp] theorem t_count_of_all_gaps : tbl T_count_of 6 = f_all_gaps := rfl
@[simp] theorem t_count_of_goes_before : tbl T_count_of 72 = f_goes_before := rfl
def f_count_of : List D → Mst → R D := runDef (tbl T_count_of) 10 b_count_of
def e_count_of : KF := ⟨"count_of", 29, 2, f_count_of⟩
def b_how_many : List MS := [.ex (.call 5 (.cons (.var 0) (.cons (.var 1) .nil))), .ret (.call 29 (.cons (.var 0) (.cons (.var 1) .nil)))]
def T_how_many : List KF := [e_need_row, e_count_of]
@[simp] theorem t_how_many_need_row : tbl T_how_many 5 = f_need_row := rfl
@[simp] theorem t_how_many_count_of : tbl T_how_many 29 = f_count_of := rfl
def f_how_many : List D → Mst → R D := runDef (tbl T_how_many) 2 b_how_many
def e_how_many : KF := ⟨"how_many", 74, 2, f_how_many⟩
def b__law_turned : List MS := [.ret (.b1 .tuple (.b1 .sorted (.comp (.bin .mod (.bin .add (.var 3) (.var 2)) (.sub (.var 0) (.int 0))) [3] (.seq (.var 1)))))]
def T__law_turned : List KF := []
def f__law_turned : List D → Mst → R D := runDef (tbl T__law_turned) 4 b__law_turned
def e__law_turned : KF := ⟨"_law_turned", 97, 3, f__law_turned⟩
def b__law_stays_ahead : List MS := [.set 5 (.comp (.bin .add (.var 9) (.call 33 (.cons (.var 0) (.cons (.int 2) .nil)))) [9] (.seq (.var 2))), .set 6 (.bin .add (.slc (.var 5) (.some (.int 1)) .no) (.lst (.cons (.bin .add (.sub (.var 5) (.int 0)) (.sub (.var 1) (.int 0))) .nil))), .set 7 (.compIf (.int 1) [10, 11] (.zip (.var 5) (.var 6)) (.cmp .ge (.var 10) (.var 11))), .cond (.and (.cmp .eq (.var 7) (.lst .nil)) (.cmp .lt (.sub (.var 5) (.neg (.int 1))) (.sub (.var 1) (.int 0)))) [.set 8 (.comp (.bin .add (.var 9) (.var 12)) [9, 12] (.zip (.var 5) (.call 45 (.cons (.var 1) (.cons (.b1 .tuple (.var 5)) (.cons (.var 4) .nil)))))), .cond (.cmp .ne (.compIf (.int 1) [10, 11] (.zip (.var 3) (.var 8)) (.cmp .gt (.var 10) (.var 11))) (.lst .nil)) [.ret (.bl false)] []] [], .ret (.bl true)]
def T__law_stays_ahead : List KF := [e__law_roll, e_gone]
@[simp] theorem t__law_stays_ahead__law_roll : tbl T__law_stays_ahead 33 = f__law_roll := rfl
@[simp] theorem t__law_stays_ahead_gone : tbl T__law_stays_ahead 45 = f_gone := rfl
def f__law_stays_ahead : List D → Mst → R D := runDef (tbl T__law_stays_ahead) 13 b__law_stays_ahead
def e__law_stays_ahead : KF := ⟨"_law_stays_ahead", 98, 5, f__law_stays_ahead⟩
def b_all_sources : List MS := [.par [3, 4] [true, false] (.cons (.lst .nil) (.cons (.call 6 (.cons (.var 0) (.cons (.var 1) .nil))) .nil)), .loop [2] (.rng (.bin .add (.sub (.var 0) (.int 1)) (.int 1))) [.set 5 (.lst (.cons (.tup (.cons (.var 2) .nil)) .nil)), .loop [6] (.seq (.rev (.var 4))) [.set 8 (.lst .nil), .loop [7] (.seq (.var 5)) [.set 8 (.bin .add (.var 8) (.comp (.bin .add (.tup (.cons (.var 9) .nil)) (.var 7)) [9] (.seq (.call 72 (.cons (.sub (.var 0) (.int 1)) (.cons (.var 6) (.cons (.sub (.var 7) (.int 0)) .nil)))))))], .set 5 (.var 8)], .loop [7] (.seq (.var 5)) [.cond (.cmp .eq (.sub (.var 7) (.int 0)) (.var 2)) [.app 3 (.call 7 (.cons (.var 0) (.cons (.var 1) (.cons (.comp (.neg (.var 9)) [9] (.seq (.slc (.var 7) .no (.some (.neg (.int 1)))))) .nil))))] []]], .ret (.b1 .sorted (.peek 3))]
def T_all_sources : List KF := [e_all_gaps, e_goes_before, e_moved]
@[simp] theorem t_all_sources_all_gaps : tbl T_all_sources 6 = f_all_gaps := rfl
@[simp] theorem t_all_sources_goes_before : tbl T_all_sources 72 = f_goes_before := rfl
@[simp] theorem t_all_sources_moved : tbl T_all_sources 7 = f_moved := rfl
def f_all_sources : List D → Mst → R D := runDef (tbl T_all_sources) 10 b_all_sources
def e_all_sources : KF := ⟨"all_sources", 73, 2, f_all_sources⟩
def b_sources : List MS := [.ex (.call 5 (.cons (.var 0) (.cons (.var 1) .nil))), .cond (.cmp .gt (.call 29 (.cons (.var 0) (.cons (.var 1) .nil))) (.gl "MOST_ROWS" (.int 300))) [.rai 7] [], .ret (.call 73 (.cons (.var 0) (.cons (.var 1) .nil)))]
def T_sources : List KF := [e_need_row, e_count_of, e_all_sources]
@[simp] theorem t_sources_need_row : tbl T_sources 5 = f_need_row := rfl
@[simp] theorem t_sources_count_of : tbl T_sources 29 = f_count_of := rfl
@[simp] theorem t_sources_all_sources : tbl T_sources 73 = f_all_sources := rfl
def f_sources : List D → Mst → R D := runDef (tbl T_sources) 2 b_sources
def e_sources : KF := ⟨"sources", 75, 2, f_sources⟩
def b_meets : List MS := [.ex (.call 5 (.cons (.var 0) (.cons (.var 1) .nil))), .ex (.call 5 (.cons (.var 0) (.cons (.var 2) .nil))), .par [4, 5] [false, false] (.cons (.call 56 (.cons (.var 0) (.cons (.var 1) .nil))) (.cons (.call 56 (.cons (.var 0) (.cons (.var 2) .nil))) .nil)), .loop [3] (.rng (.bin .add (.b2 .max (.sub (.var 4) (.int 0)) (.sub (.var 5) (.int 0))) (.bin .mul (.sub (.var 4) (.int 1)) (.sub (.var 5) (.int 1))))) [.cond (.cmp .eq (.var 1) (.var 2)) [.ret (.var 3)] [], .par [1, 2] [false, false] (.cons (.call 9 (.cons (.var 0) (.cons (.var 1) .nil))) (.cons (.call 9 (.cons (.var 0) (.cons (.var 2) .nil))) .nil))], .ret .non]
def T_meets : List KF := [e_need_row, e_round_at, e_next_row]
@[simp] theorem t_meets_need_row : tbl T_meets 5 = f_need_row := rfl
@[simp] theorem t_meets_round_at : tbl T_meets 56 = f_round_at := rfl
@[simp] theorem t_meets_next_row : tbl T_meets 9 = f_next_row := rfl
def f_meets : List D → Mst → R D := runDef (tbl T_meets) 6 b_meets
def e_meets : KF := ⟨"meets", 99, 3, f_meets⟩
def b_behind_in : List MS := [.ex (.call 5 (.cons (.var 0) (.cons (.var 1) .nil))), .ex (.call 5 (.cons (.var 0) (.cons (.var 2) .nil))), .loop [3] (.rng (.b1 .sum (.call 56 (.cons (.var 0) (.cons (.var 1) .nil))))) [.cond (.cmp .eq (.var 1) (.var 2)) [.ret (.var 3)] [], .set 1 (.call 9 (.cons (.var 0) (.cons (.var 1) .nil)))], .ret .non]
def T_behind_in : List KF := [e_need_row, e_round_at, e_next_row]
@[simp] theorem t_behind_in_need_row : tbl T_behind_in 5 = f_need_row := rfl
@[simp] theorem t_behind_in_round_at : tbl T_behind_in 56 = f_round_at := rfl
@[simp] theorem t_behind_in_next_row : tbl T_behind_in 9 = f_next_row := rfl
def f_behind_in : List D → Mst → R D := runDef (tbl T_behind_in) 4 b_behind_in
def e_behind_in : KF := ⟨"behind_in", 100, 3, f_behind_in⟩
def b_is_harmless : List MS := [.set 3 (.b1 .tuple (.b1 .sorted (.bin .add (.var 1) (.tup (.cons (.var 2) .nil))))), .set 4 (.bin .add (.b2 .max (.sub (.call 55 (.cons (.var 0) (.cons (.var 1) .nil))) (.int 0)) (.sub (.call 55 (.cons (.var 0) (.cons (.var 3) .nil))) (.int 0))) (.int 1)), .ret (.not (.b1 .any (.comp (.b1 .any (.call 23 (.cons (.var 0) (.cons (.var 1) (.cons (.var 2) (.cons (.var 5) .nil)))))) [5] (.seq (.bin .add (.lrg (.rng (.bin .add (.var 4) (.int 1)))) (.lst (.cons (.gl "FARTHEST" (.int 1000000000000000000)) .nil)))))))]
def T_is_harmless : List KF := [e_settled, e_all_later]
@[simp] theorem t_is_harmless_settled : tbl T_is_harmless 55 = f_settled := rfl
@[simp] theorem t_is_harmless_all_later : tbl T_is_harmless 23 = f_all_later := rfl
def f_is_harmless : List D → Mst → R D := runDef (tbl T_is_harmless) 6 b_is_harmless
def e_is_harmless : KF := ⟨"is_harmless", 93, 3, f_is_harmless⟩
def b_harmless : List MS := [.ex (.call 5 (.cons (.var 0) (.cons (.var 1) .nil))), .ret (.compIf (.var 2) [2] (.rng (.sub (.var 0) (.int 0))) (.and (.cmp .nin (.var 2) (.var 1)) (.call 93 (.cons (.var 0) (.cons (.var 1) (.cons (.var 2) .nil))))))]
def T_harmless : List KF := [e_need_row, e_is_harmless]
@[simp] theorem t_harmless_need_row : tbl T_harmless 5 = f_need_row := rfl
@[simp] theorem t_harmless_is_harmless : tbl T_harmless 93 = f_is_harmless := rfl
def f_harmless : List D → Mst → R D := runDef (tbl T_harmless) 3 b_harmless
def e_harmless : KF := ⟨"harmless", 94, 2, f_harmless⟩
def b_is_shut : List MS := [.cond (.or (.not (.isi (.var 1) .tuple)) (.or (.cmp .ne (.b1 .len (.var 1)) (.int 2)) (.not (.call 1 (.cons (.sub (.var 1) (.int 0)) (.cons (.int 0) (.cons (.bin .sub (.sub (.var 0) (.int 0)) (.int 1)) .nil))))))) [.ret (.bl false)] [], .ret (.call 1 (.cons (.sub (.var 1) (.int 1)) (.cons (.int 0) (.cons (.gl "LATEST_BEAT" (.int 59)) .nil))))]
def T_is_shut : List KF := [e_is_whole]
@[simp] theorem t_is_shut_is_whole : tbl T_is_shut 1 = f_is_whole := rfl
def f_is_shut : List D → Mst → R D := runDef (tbl T_is_shut) 2 b_is_shut
def e_is_shut : KF := ⟨"is_shut", 101, 2, f_is_shut⟩
def b_need_shuts : List MS := [.ex (.call 5 (.cons (.var 0) (.cons (.var 1) .nil))), .cond (.or (.not (.isi (.var 2) .list)) (.or (.cmp .gt (.b1 .len (.var 2)) (.gl "MOST_SHUTS" (.int 6))) (.not (.b1 .all (.comp (.call 101 (.cons (.var 0) (.cons (.var 3) .nil))) [3] (.seq (.var 2))))))) [.rai 5] [], .cond (.not (.b1 .all (.comp (.cmp .lt (.var 3) (.var 4)) [3, 4] (.zip (.var 2) (.slc (.var 2) (.some (.int 1)) .no))))) [.rai 5] []]
def T_need_shuts : List KF := [e_need_row, e_is_shut]
@[simp] theorem t_need_shuts_need_row : tbl T_need_shuts 5 = f_need_row := rfl
@[simp] theorem t_need_shuts_is_shut : tbl T_need_shuts 101 = f_is_shut := rfl
def f_need_shuts : List D → Mst → R D := runDef (tbl T_need_shuts) 5 b_need_shuts
def e_need_shuts : KF := ⟨"need_shuts", 103, 3, f_need_shuts⟩
def b_need_late : List MS := [.cond (.not (.call 1 (.cons (.var 0) (.cons (.int 0) (.cons (.gl "LATEST_MOMENT" (.int 60)) .nil))))) [.rai 2] []]
def T_need_late : List KF := [e_is_whole]
@[simp] theorem t_need_late_is_whole : tbl T_need_late 1 = f_is_whole := rfl
def f_need_late : List D → Mst → R D := runDef (tbl T_need_late) 1 b_need_late
def e_need_late : KF := ⟨"need_late", 104, 1, f_need_late⟩
def b_step : List MS := [.par [3, 4] [false, true] (.cons (.bin .add (.slc (.var 1) (.some (.int 1)) .no) (.lst (.cons (.bin .add (.sub (.var 1) (.int 0)) (.sub (.var 0) (.int 0))) .nil))) (.cons (.lst .nil) .nil)), .loop [5, 6] (.zip (.var 1) (.var 3)) [.set 7 (.b1 .min (.bin .add (.lst (.cons (.sub (.var 0) (.int 1)) (.cons (.bin .sub (.bin .sub (.var 6) (.var 5)) (.int 1)) .nil))) (.comp (.bin .mod (.bin .sub (.var 8) (.var 5)) (.sub (.var 0) (.int 0))) [8] (.seq (.var 2))))), .app 4 (.bin .add (.var 5) (.var 7))], .frz 4, .ret (.var 4)]
def T_step : List KF := []
def f_step : List D → Mst → R D := runDef (tbl T_step) 9 b_step
def e_step : KF := ⟨"step", 102, 3, f_step⟩
def b_way_gone : List MS := [.set 4 (.b1 .list (.var 1)), .loop [5] (.rng (.var 3)) [.set 4 (.call 102 (.cons (.var 0) (.cons (.var 4) (.cons (.compIf (.var 7) [7, 8] (.seq (.var 2)) (.cmp .eq (.var 8) (.var 5))) .nil))))], .ret (.b1 .tuple (.comp (.bin .sub (.var 6) (.var 7)) [6, 7] (.zip (.var 4) (.var 1))))]
def T_way_gone : List KF := [e_step]
@[simp] theorem t_way_gone_step : tbl T_way_gone 102 = f_step := rfl
def f_way_gone : List D → Mst → R D := runDef (tbl T_way_gone) 9 b_way_gone
def e_way_gone : KF := ⟨"way_gone", 105, 4, f_way_gone⟩
def b_gone_shut : List MS := [.ex (.call 103 (.cons (.var 0) (.cons (.var 1) (.cons (.var 2) .nil)))), .ex (.call 104 (.cons (.var 3) .nil)), .ret (.call 105 (.cons (.var 0) (.cons (.var 1) (.cons (.var 2) (.cons (.var 3) .nil)))))]
def T_gone_shut : List KF := [e_need_shuts, e_need_late, e_way_gone]
@[simp] theorem t_gone_shut_need_shuts : tbl T_gone_shut 103 = f_need_shuts := rfl
@[simp] theorem t_gone_shut_need_late : tbl T_gone_shut 104 = f_need_late := rfl
@[simp] theorem t_gone_shut_way_gone : tbl T_gone_shut 105 = f_way_gone := rfl
def f_gone_shut : List D → Mst → R D := runDef (tbl T_gone_shut) 4 b_gone_shut
def e_gone_shut : KF := ⟨"gone_shut", 108, 4, f_gone_shut⟩
def b_after_shut : List MS := [.ex (.call 103 (.cons (.var 0) (.cons (.var 1) (.cons (.var 2) .nil)))), .ex (.call 104 (.cons (.var 3) .nil)), .ret (.call 7 (.cons (.var 0) (.cons (.var 1) (.cons (.call 105 (.cons (.var 0) (.cons (.var 1) (.cons (.var 2) (.cons (.var 3) .nil))))) .nil))))]
def T_after_shut : List KF := [e_need_shuts, e_need_late, e_moved, e_way_gone]
@[simp] theorem t_after_shut_need_shuts : tbl T_after_shut 103 = f_need_shuts := rfl
@[simp] theorem t_after_shut_need_late : tbl T_after_shut 104 = f_need_late := rfl
@[simp] theorem t_after_shut_moved : tbl T_after_shut 7 = f_moved := rfl
@[simp] theorem t_after_shut_way_gone : tbl T_after_shut 105 = f_way_gone := rfl
def f_after_shut : List D → Mst → R D := runDef (tbl T_after_shut) 4 b_after_shut
def e_after_shut : KF := ⟨"after_shut", 109, 4, f_after_shut⟩
def b_all_lost : List MS := [.par [4, 5] [false, false] (.cons (.call 105 (.cons (.var 0) (.cons (.var 1) (.cons (.lst .nil) (.cons (.var 3) .nil))))) (.cons (.call 105 (.cons (.var 0) (.cons (.var 1) (.cons (.var 2) (.cons (.var 3) .nil))))) .nil)), .ret (.b1 .tuple (.comp (.bin .sub (.var 6) (.var 7)) [6, 7] (.zip (.var 4) (.var 5))))]
def T_all_lost : List KF := [e_way_gone]
@[simp] theorem t_all_lost_way_gone : tbl T_all_lost 105 = f_way_gone := rfl
def f_all_lost : List D → Mst → R D := runDef (tbl T_all_lost) 8 b_all_lost
def e_all_lost : KF := ⟨"all_lost", 106, 4, f_all_lost⟩
def b_lost : List MS := [.ex (.call 103 (.cons (.var 0) (.cons (.var 1) (.cons (.var 2) .nil)))), .ex (.call 104 (.cons (.var 3) .nil)), .ret (.call 106 (.cons (.var 0) (.cons (.var 1) (.cons (.var 2) (.cons (.var 3) .nil)))))]
def T_lost : List KF := [e_need_shuts, e_need_late, e_all_lost]
@[simp] theorem t_lost_need_shuts : tbl T_lost 103 = f_need_shuts := rfl
@[simp] theorem t_lost_need_late : tbl T_lost 104 = f_need_late := rfl
@[simp] theorem t_lost_all_lost : tbl T_lost 106 = f_all_lost := rfl
def f_lost : List D → Mst → R D := runDef (tbl T_lost) 4 b_lost
def e_lost : KF := ⟨"lost", 110, 4, f_lost⟩
def b_best_shut : List MS := [.ex (.call 5 (.cons (.var 0) (.cons (.var 1) .nil))), .cond (.not (.call 1 (.cons (.var 2) (.cons (.int 0) (.cons (.bin .sub (.sub (.var 0) (.int 0)) (.int 1)) .nil))))) [.rai 3] [], .ex (.call 104 (.cons (.var 3) .nil)), .cond (.cmp .eq (.var 3) (.int 0)) [.rai 6] [], .ret (.b1 .min (.comp (.tup (.cons (.b1 .sum (.call 106 (.cons (.var 0) (.cons (.var 1) (.cons (.lst (.cons (.tup (.cons (.var 2) (.cons (.var 4) .nil))) .nil)) (.cons (.var 3) .nil)))))) (.cons (.var 4) .nil))) [4] (.rng (.var 3))))]
def T_best_shut : List KF := [e_need_row, e_is_whole, e_need_late, e_all_lost]
@[simp] theorem t_best_shut_need_row : tbl T_best_shut 5 = f_need_row := rfl
@[simp] theorem t_best_shut_is_whole : tbl T_best_shut 1 = f_is_whole := rfl
@[simp] theorem t_best_shut_need_late : tbl T_best_shut 104 = f_need_late := rfl
@[simp] theorem t_best_shut_all_lost : tbl T_best_shut 106 = f_all_lost := rfl
def f_best_shut : List D → Mst → R D := runDef (tbl T_best_shut) 5 b_best_shut
def e_best_shut : KF := ⟨"best_shut", 111, 4, f_best_shut⟩
def b__law_shut_step : List MS := [.own 3 (.lst .nil), .loop [4, 5] (.enum (.var 1)) [.set 6 (.ite (.cmp .lt (.bin .add (.var 4) (.int 1)) (.b1 .len (.var 1))) (.sub (.var 1) (.bin .add (.var 4) (.int 1))) (.bin .add (.sub (.var 1) (.int 0)) (.sub (.var 0) (.int 0)))), .set 7 (.var 5), .whl 1000000 (.and (.cmp .lt (.bin .sub (.var 7) (.var 5)) (.sub (.var 0) (.int 1))) (.and (.cmp .lt (.bin .add (.var 7) (.int 1)) (.var 6)) (.cmp .nin (.bin .mod (.var 7) (.sub (.var 0) (.int 0))) (.var 2)))) [.set 7 (.bin .add (.var 7) (.int 1))], .app 3 (.var 7)], .frz 3, .ret (.var 3)]
def T__law_shut_step : List KF := []
def f__law_shut_step : List D → Mst → R D := runDef (tbl T__law_shut_step) 8 b__law_shut_step
def e__law_shut_step : KF := ⟨"_law_shut_step", 107, 3, f__law_shut_step⟩
def b__law_shut_walk : List MS := [.set 4 (.b1 .list (.var 1)), .loop [5] (.rng (.var 3)) [.set 4 (.call 107 (.cons (.var 0) (.cons (.var 4) (.cons (.compIf (.var 7) [7, 8] (.seq (.var 2)) (.cmp .eq (.var 8) (.var 5))) .nil))))], .ret (.b1 .tuple (.comp (.bin .sub (.var 6) (.var 7)) [6, 7] (.zip (.var 4) (.var 1))))]
def T__law_shut_walk : List KF := [e__law_shut_step]
@[simp] theorem t__law_shut_walk__law_shut_step : tbl T__law_shut_walk 107 = f__law_shut_step := rfl
def f__law_shut_walk : List D → Mst → R D := runDef (tbl T__law_shut_walk) 9 b__law_shut_walk
def e__law_shut_walk : KF := ⟨"_law_shut_walk", 112, 4, f__law_shut_walk⟩
def b__law_shuts_refused : List MS := [.set 2 (.lst (.cons .non (.cons (.int 5) (.cons (.tup .nil) (.cons (.lst (.cons .non .nil)) (.cons (.lst (.cons (.tup (.cons (.int 0) (.cons (.int 60) .nil))) .nil)) (.cons (.lst (.cons (.tup (.cons (.sub (.var 0) (.int 0)) (.cons (.int 0) .nil))) .nil)) (.cons (.lst (.cons (.tup (.cons (.int 0) (.cons (.int 1) .nil))) (.cons (.tup (.cons (.int 0) (.cons (.int 1) .nil))) .nil))) (.cons (.lst (.cons (.tup (.cons (.int 1) (.cons (.int 0) .nil))) (.cons (.tup (.cons (.int 0) (.cons (.int 0) .nil))) .nil))) .nil))))))))), .set 2 (.bin .add (.var 2) (.lst (.cons (.comp (.tup (.cons (.int 0) (.cons (.var 5) .nil))) [5] (.rng (.int 7))) (.cons (.lst (.cons (.lst (.cons (.int 0) (.cons (.int 0) .nil))) .nil)) (.cons (.lst (.cons (.tup (.cons (.bl true) (.cons (.int 0) .nil))) .nil)) .nil))))), .loop [3] (.seq (.var 2)) [.own 4 (.lst (.cons (.told 34 (.call 108 (.cons (.var 0) (.cons (.var 1) (.cons (.var 3) (.cons .non .nil)))))) .nil)), .app 4 (.told 34 (.call 109 (.cons (.var 0) (.cons (.var 1) (.cons (.var 3) (.cons .non .nil)))))), .cond (.cmp .ne (.bin .add (.peek 4) (.lst (.cons (.told 34 (.call 110 (.cons (.var 0) (.cons (.var 1) (.cons (.var 3) (.cons .non .nil)))))) .nil))) (.bin .mul (.lst (.cons (.tup (.cons (.str "refused") (.cons (.str "BadShuts") .nil))) .nil)) (.int 3))) [.ret (.bl false)] []], .loop [3] (.seq (.lst (.cons (.neg (.int 1)) (.cons (.int 61) (.cons (.bl true) (.cons .non .nil)))))) [.own 4 (.lst (.cons (.told 34 (.call 108 (.cons (.var 0) (.cons (.var 1) (.cons (.lst .nil) (.cons (.var 3) .nil)))))) .nil)), .app 4 (.told 34 (.call 109 (.cons (.var 0) (.cons (.var 1) (.cons (.lst .nil) (.cons (.var 3) .nil)))))), .app 4 (.told 34 (.call 110 (.cons (.var 0) (.cons (.var 1) (.cons (.lst .nil) (.cons (.var 3) .nil)))))), .app 4 (.told 34 (.call 111 (.cons (.var 0) (.cons (.var 1) (.cons (.int 0) (.cons (.var 3) .nil)))))), .cond (.cmp .ne (.peek 4) (.bin .mul (.lst (.cons (.tup (.cons (.str "refused") (.cons (.str "BadNumber") .nil))) .nil)) (.int 4))) [.ret (.bl false)] []], .loop [3] (.seq (.lst (.cons (.neg (.int 1)) (.cons (.sub (.var 0) (.int 0)) (.cons (.bl true) (.cons .non .nil)))))) [.cond (.cmp .ne (.told 34 (.call 111 (.cons (.var 0) (.cons (.var 1) (.cons (.var 3) (.cons .non .nil)))))) (.tup (.cons (.str "refused") (.cons (.str "BadCell") .nil)))) [.ret (.bl false)] []], .ret (.cmp .eq (.told 34 (.call 111 (.cons (.var 0) (.cons (.var 1) (.cons (.int 0) (.cons (.int 0) .nil)))))) (.tup (.cons (.str "refused") (.cons (.str "Nothing") .nil))))]
def T__law_shuts_refused : List KF := [e_gone_shut, e_after_shut, e_lost, e_best_shut]
@[simp] theorem t__law_shuts_refused_gone_shut : tbl T__law_shuts_refused 108 = f_gone_shut := rfl
@[simp] theorem t__law_shuts_refused_after_shut : tbl T__law_shuts_refused 109 = f_after_shut := rfl
@[simp] theorem t__law_shuts_refused_lost : tbl T__law_shuts_refused 110 = f_lost := rfl
@[simp] theorem t__law_shuts_refused_best_shut : tbl T__law_shuts_refused 111 = f_best_shut := rfl
def f__law_shuts_refused : List D → Mst → R D := runDef (tbl T__law_shuts_refused) 6 b__law_shuts_refused
def e__law_shuts_refused : KF := ⟨"_law_shuts_refused", 113, 2, f__law_shuts_refused⟩
def b_is_lone : List MS := [.ex (.call 5 (.cons (.var 0) (.cons (.var 1) .nil))), .ret (.cmp .eq (.call 29 (.cons (.var 0) (.cons (.var 1) .nil))) (.int 0))]
def T_is_lone : List KF := [e_need_row, e_count_of]
@[simp] theorem t_is_lone_need_row : tbl T_is_lone 5 = f_need_row := rfl
@[simp] theorem t_is_lone_count_of : tbl T_is_lone 29 = f_count_of := rfl
def f_is_lone : List D → Mst → R D := runDef (tbl T_is_lone) 2 b_is_lone
def e_is_lone : KF := ⟨"is_lone", 118, 2, f_is_lone⟩
def b_depth : List MS := [.ex (.call 5 (.cons (.var 0) (.cons (.var 1) .nil))), .cond (.or (.call 53 (.cons (.var 0) (.cons (.var 1) .nil))) (.call 54 (.cons (.var 0) (.cons (.var 1) .nil)))) [.ret .non] [], .par [2, 3] [false, false] (.cons (.lst (.cons (.var 1) .nil)) (.cons (.int 0) .nil)), .whl 1000000 (.cmp .ne (.var 2) (.lst .nil)) [.cond (.cmp .gt (.b1 .sum (.comp (.call 29 (.cons (.var 0) (.cons (.var 4) .nil))) [4] (.seq (.var 2)))) (.gl "MOST_ROWS" (.int 300))) [.rai 7] [], .set 2 (.comp2 (.var 5) [4] (.seq (.var 2)) [5] (.seq (.call 73 (.cons (.var 0) (.cons (.var 4) .nil))))), .set 3 (.bin .add (.var 3) (.int 1))], .ret (.bin .sub (.var 3) (.int 1))]
def T_depth : List KF := [e_need_row, e_does_back, e_does_run, e_count_of, e_all_sources]
@[simp] theorem t_depth_need_row : tbl T_depth 5 = f_need_row := rfl
@[simp] theorem t_depth_does_back : tbl T_depth 54 = f_does_back := rfl
@[simp] theorem t_depth_does_run : tbl T_depth 53 = f_does_run := rfl
@[simp] theorem t_depth_count_of : tbl T_depth 29 = f_count_of := rfl
@[simp] theorem t_depth_all_sources : tbl T_depth 73 = f_all_sources := rfl
def f_depth : List D → Mst → R D := runDef (tbl T_depth) 6 b_depth
def e_depth : KF := ⟨"depth", 76, 2, f_depth⟩
def b__law_rows : List MS := [.set 2 (.lst (.cons (.tup .nil) .nil)), .loop [3] (.rng3 (.bin .sub (.sub (.var 0) (.int 0)) (.int 1)) (.neg (.int 1)) (.neg (.int 1))) [.set 2 (.bin .add (.var 2) (.compIf (.bin .add (.tup (.cons (.var 3) .nil)) (.var 4)) [4] (.seq (.var 2)) (.cmp .lt (.b1 .len (.var 4)) (.var 1))))], .ret (.b1 .sorted (.compIf (.var 4) [4] (.seq (.var 2)) (.cmp .eq (.b1 .len (.var 4)) (.var 1))))]
def T__law_rows : List KF := []
def f__law_rows : List D → Mst → R D := runDef (tbl T__law_rows) 5 b__law_rows
def e__law_rows : KF := ⟨"_law_rows", 116, 2, f__law_rows⟩
def b__law_known_numbers : List MS := [.set 0 (.tup (.cons (.int 24) (.cons (.int 3) .nil))), .set 1 (.trg (.rng3 (.int 0) (.int 24) (.int 4))), .cond (.cmp .ne (.call 74 (.cons (.var 0) (.cons (.var 1) .nil))) (.b1 .len (.call 75 (.cons (.var 0) (.cons (.var 1) .nil))))) [.ret (.bl false)] [], .set 2 (.trg (.rng3 (.int 0) (.int 24) (.int 2))), .cond (.cmp .ne (.call 74 (.cons (.tup (.cons (.int 24) (.cons (.int 1) .nil))) (.cons (.var 2) .nil))) (.int 322)) [.ret (.bl false)] [], .cond (.cmp .ne (.told 34 (.call 75 (.cons (.tup (.cons (.int 24) (.cons (.int 1) .nil))) (.cons (.var 2) .nil)))) (.tup (.cons (.str "refused") (.cons (.str "Full") .nil)))) [.ret (.bl false)] [], .cond (.or (.cmp .ne (.b1 .len (.call 75 (.cons (.tup (.cons (.int 22) (.cons (.int 1) .nil))) (.cons (.slc (.var 2) .no (.some (.int 11))) .nil)))) (.int 199)) (.cmp .ne (.call 74 (.cons (.tup (.cons (.int 22) (.cons (.int 1) .nil))) (.cons (.slc (.var 2) .no (.some (.int 11))) .nil))) (.int 199))) [.ret (.bl false)] [], .set 3 (.bin .add (.bin .add (.slc (.var 2) .no (.some (.int 9))) (.tup (.cons (.int 19) .nil))) (.slc (.var 2) (.some (.int 10)) .no)), .cond (.cmp .ne (.told 34 (.call 76 (.cons (.tup (.cons (.int 24) (.cons (.int 1) .nil))) (.cons (.var 3) .nil)))) (.tup (.cons (.str "refused") (.cons (.str "Full") .nil)))) [.ret (.bl false)] [], .cond (.cmp .nisn (.call 76 (.cons (.tup (.cons (.int 24) (.cons (.int 1) .nil))) (.cons (.var 2) .nil))) .non) [.ret (.bl false)] [], .ret (.bl true)]
def T__law_known_numbers : List KF := [e_how_many, e_sources, e_depth]
@[simp] theorem t__law_known_numbers_how_many : tbl T__law_known_numbers 74 = f_how_many := rfl
@[simp] theorem t__law_known_numbers_sources : tbl T__law_known_numbers 75 = f_sources := rfl
@[simp] theorem t__law_known_numbers_depth : tbl T__law_known_numbers 76 = f_depth := rfl
def f__law_known_numbers : List D → Mst → R D := runDef (tbl T__law_known_numbers) 4 b__law_known_numbers
def e__law_known_numbers : KF := ⟨"_law_known_numbers", 119, 0, f__law_known_numbers⟩
def b_need_beats : List MS := [.cond (.not (.call 1 (.cons (.var 0) (.cons (.int 0) (.cons (.gl "MOST_BEATS" (.int 12)) .nil))))) [.rai 2] []]
def T_need_beats : List KF := [e_is_whole]
@[simp] theorem t_need_beats_is_whole : tbl T_need_beats 1 = f_is_whole := rfl
def f_need_beats : List D → Mst → R D := runDef (tbl T_need_beats) 1 b_need_beats
def e_need_beats : KF := ⟨"need_beats", 120, 1, f_need_beats⟩
def b_led_back : List MS := [.set 3 (.lst (.cons (.var 1) .nil)), .loop [4] (.rng (.var 2)) [.cond (.cmp .gt (.b1 .sum (.comp (.call 29 (.cons (.var 0) (.cons (.var 5) .nil))) [5] (.seq (.var 3)))) (.gl "MOST_ROWS" (.int 300))) [.rai 7] [], .set 3 (.comp2 (.var 6) [5] (.seq (.var 3)) [6] (.seq (.call 73 (.cons (.var 0) (.cons (.var 5) .nil)))))], .ret (.b1 .len (.var 3))]
def T_led_back : List KF := [e_count_of, e_all_sources]
@[simp] theorem t_led_back_count_of : tbl T_led_back 29 = f_count_of := rfl
@[simp] theorem t_led_back_all_sources : tbl T_led_back 73 = f_all_sources := rfl
def f_led_back : List D → Mst → R D := runDef (tbl T_led_back) 7 b_led_back
def e_led_back : KF := ⟨"led_back", 121, 3, f_led_back⟩
def b_ancestors : List MS := [.ex (.call 5 (.cons (.var 0) (.cons (.var 1) .nil))), .ex (.call 120 (.cons (.var 2) .nil)), .ret (.call 121 (.cons (.var 0) (.cons (.var 1) (.cons (.var 2) .nil))))]
def T_ancestors : List KF := [e_need_row, e_need_beats, e_led_back]
@[simp] theorem t_ancestors_need_row : tbl T_ancestors 5 = f_need_row := rfl
@[simp] theorem t_ancestors_need_beats : tbl T_ancestors 120 = f_need_beats := rfl
@[simp] theorem t_ancestors_led_back : tbl T_ancestors 121 = f_led_back := rfl
def f_ancestors : List D → Mst → R D := runDef (tbl T_ancestors) 3 b_ancestors
def e_ancestors : KF := ⟨"ancestors", 122, 3, f_ancestors⟩
def b_same_end : List MS := [.ex (.call 5 (.cons (.var 0) (.cons (.var 1) .nil))), .ex (.call 120 (.cons (.var 2) .nil)), .ret (.call 121 (.cons (.var 0) (.cons (.call 17 (.cons (.var 0) (.cons (.var 1) (.cons (.var 2) .nil)))) (.cons (.var 2) .nil))))]
def T_same_end : List KF := [e_need_row, e_need_beats, e_led_back, e_row_at]
@[simp] theorem t_same_end_need_row : tbl T_same_end 5 = f_need_row := rfl
@[simp] theorem t_same_end_need_beats : tbl T_same_end 120 = f_need_beats := rfl
@[simp] theorem t_same_end_led_back : tbl T_same_end 121 = f_led_back := rfl
@[simp] theorem t_same_end_row_at : tbl T_same_end 17 = f_row_at := rfl
def f_same_end : List D → Mst → R D := runDef (tbl T_same_end) 3 b_same_end
def e_same_end : KF := ⟨"same_end", 123, 3, f_same_end⟩
end Gc
end
section
set_option autoImplicit false
set_option linter.all false
namespace Gm
/-! ### the window's least -/
def wm (b : Nat → Int) : Nat → Nat → Int
  | j, 0 => b j
  | j, t + 1 => min (wm b j t) (wm b (j + 1) t)
theorem wm_le {b : Nat → Int} : ∀ {t j i : Nat}, j ≤ i → i ≤ j + t → wm b j t ≤ b i
  | 0, j, i, h1, h2 => by
    have : i = j := by omega
    subst this
    exact Int.le_refl _
  | t + 1, j, i, h1, h2 => by
    show min _ _ ≤ _
    by_cases h : i = j
    · have := wm_le (b := b) (t := t) (j := j) (i := i) h1 (by omega)
      omega
    · have := wm_le (b := b) (t := t) (j := j + 1) (i := i) (by omega) (by omega)
      omega
theorem wm_at {b : Nat → Int} : ∀ (t j : Nat), ∃ i, j ≤ i ∧ i ≤ j + t ∧ wm b j t = b i
  | 0, j => ⟨j, Nat.le_refl _, Nat.le_refl _, rfl⟩
  | t + 1, j => by
    obtain ⟨i, h1, h2, h3⟩ := wm_at (b := b) t j
    obtain ⟨k, k1, k2, k3⟩ := wm_at (b := b) t (j + 1)
    by_cases h : wm b j t ≤ wm b (j + 1) t
    · exact ⟨i, h1, by omega, by show min _ _ = _; omega⟩
    · exact ⟨k, by omega, by omega, by show min _ _ = _; omega⟩
theorem wm_eq {b : Nat → Int} {j t : Nat} {c : Int} (h : ∀ i, j ≤ i → i ≤ j + t → c ≤ b i) (h2 : ∃ i, j ≤ i ∧ i ≤ j + t ∧ b i = c) : wm b j t = c := by
  obtain ⟨i, h3, h4, h5⟩ := wm_at (b := b) t j
  obtain ⟨k, k1, k2, k3⟩ := h2
  have h6 := wm_le (b := b) k1 k2
  have h7 := h i h3 h4
  omega
/-! ### carts on a ring: a(j), continued; all numbers -/
structure Rg (L r : Int) (n : Nat) (a : Nat → Int) : Prop where
  r0 : 0 ≤ r
  n0 : 0 < n
  per : ∀ j, a (j + n) = a j + L
  inc : ∀ j, a j < a (j + 1)
def bb (r : Int) (a : Nat → Int) (i : Nat) : Int := a i - (r + 1) * (i : Int)
/-- where cart j stands at t -/
def xx (r : Int) (a : Nat → Int) (t j : Nat) : Int := r * (t : Int) + (r + 1) * (j : Int) + wm (bb r a) j t
section
variable {L r : Int} {n : Nat} {a : Nat → Int}
theorem xx_zero (j : Nat) : xx r a 0 j = a j := by
  unfold xx
  show r * ((0 : Nat) : Int) + (r + 1) * (j : Int) + (a j - (r + 1) * (j : Int)) = a j
  simp
  omega
theorem xx_succ (t j : Nat) : xx r a (t + 1) j = min (xx r a t j + r) (xx r a t (j + 1) - 1) := by
  unfold xx
  show r * ((t + 1 : Nat) : Int) + (r + 1) * (j : Int) + min (wm (bb r a) j t) (wm (bb r a) (j + 1) t) = _
  have e1 : r * ((t + 1 : Nat) : Int) = r * (t : Int) + r := by rw [Int.natCast_add, Int.mul_add]; simp
  have e2 : (r + 1) * ((j + 1 : Nat) : Int) = (r + 1) * (j : Int) + (r + 1) := by rw [Int.natCast_add, Int.mul_add]; simp
  rw [e1, e2]
  omega
theorem xx_of (f : Nat → Nat → Int) (h0 : ∀ j, f 0 j = a j) (hs : ∀ t j, f (t + 1) j = min (f t j + r) (f t (j + 1) - 1)) : ∀ t j, f t j = xx r a t j
  | 0, j => by rw [h0, xx_zero]
  | t + 1, j => by rw [hs, xx_succ, xx_of f h0 hs t, xx_of f h0 hs t]
theorem xx_per (R : Rg L r n a) : ∀ t j, xx r a t (j + n) = xx r a t j + L
  | 0, j => by rw [xx_zero, xx_zero, R.per]
  | t + 1, j => by
    rw [xx_succ, xx_succ, xx_per R t, show j + n + 1 = (j + 1) + n by omega, xx_per R t]
    omega
theorem xx_inc (R : Rg L r n a) : ∀ t j, xx r a t j < xx r a t (j + 1)
  | 0, j => by rw [xx_zero, xx_zero]; exact R.inc j
  | t + 1, j => by
    rw [xx_succ, xx_succ]
    have h1 := xx_inc R t j
    have h2 := xx_inc R t (j + 1)
    have := R.r0
    omega
/-- the carts at t, as a start -/
theorem xx_rg (R : Rg L r n a) (t : Nat) : Rg L r n (xx r a t) := ⟨R.r0, R.n0, xx_per R t, xx_inc R t⟩
theorem xx_add (t s j : Nat) : xx r a (t + s) j = xx r (xx r a t) s j := by
  refine (xx_of (a := xx r a t) (fun s j => xx r a (t + s) j) (fun j => rfl) (fun s j => ?_) s j)
  exact xx_succ (t + s) j
theorem bb_per (R : Rg L r n a) (i : Nat) : bb r a (i + n) = bb r a i + (L - (r + 1) * (n : Int)) := by
  unfold bb
  rw [R.per, Int.natCast_add, Int.mul_add]
  omega
/-- with room, once n - 1 beats are over, all run -/
theorem runs_at (R : Rg L r n a) (h : (r + 1) * (n : Int) ≤ L) {t : Nat} (ht : n ≤ t + 1) (j : Nat) : xx r a (t + 1) j = xx r a t j + r := by
  rw [xx_succ]
  have key : wm (bb r a) j t ≤ wm (bb r a) (j + 1) t := by
    obtain ⟨i, h1, h2, h3⟩ := wm_at (b := bb r a) t (j + 1)
    rw [h3]
    by_cases hi : i ≤ j + t
    · exact wm_le (by omega) hi
    · have e : i = (j + t + 1 - n) + n := by omega
      rw [e, bb_per R]
      have := wm_le (b := bb r a) (t := t) (j := j) (i := j + t + 1 - n) (by omega) (by have := R.n0; omega)
      omega
  unfold xx
  have e2 : (r + 1) * ((j + 1 : Nat) : Int) = (r + 1) * (j : Int) + (r + 1) := by rw [Int.natCast_add, Int.mul_add]; simp
  rw [e2]
  omega
/-- without, all follow close -/
theorem backs_at (R : Rg L r n a) (h : L ≤ (r + 1) * (n : Int)) {t : Nat} (ht : n ≤ t + 1) (j : Nat) : xx r a (t + 1) j = xx r a t (j + 1) - 1 := by
  rw [xx_succ]
  have key : wm (bb r a) (j + 1) t ≤ wm (bb r a) j t := by
    obtain ⟨i, h1, h2, h3⟩ := wm_at (b := bb r a) t j
    rw [h3]
    by_cases hi : j + 1 ≤ i
    · exact wm_le hi (by omega)
    · have e : i = j := by omega
      subst e
      have := wm_le (b := bb r a) (t := t) (j := i + 1) (i := i + n) (by have := R.n0; omega) (by omega)
      rw [bb_per R] at this
      omega
  unfold xx
  have e2 : (r + 1) * ((j + 1 : Nat) : Int) = (r + 1) * (j : Int) + (r + 1) := by rw [Int.natCast_add, Int.mul_add]; simp
  rw [e2]
  omega
/-- all run at t: from then on -/
def Runs (r : Int) (a : Nat → Int) : Prop := ∀ j, r ≤ a (j + 1) - a j - 1
def Backs (r : Int) (a : Nat → Int) : Prop := ∀ j, a (j + 1) - a j - 1 ≤ r
theorem runs_go (h : Runs r a) : ∀ t j, xx r a t j = a j + r * (t : Int)
  | 0, j => by rw [xx_zero]; simp
  | t + 1, j => by
    rw [xx_succ, runs_go h t, runs_go h t]
    have := h j
    have e1 : r * ((t + 1 : Nat) : Int) = r * (t : Int) + r := by rw [Int.natCast_add, Int.mul_add]; simp
    rw [e1]
    omega
theorem backs_go (h : Backs r a) : ∀ t j, xx r a t j = a (j + t) - (t : Int)
  | 0, j => by rw [xx_zero]; simp
  | t + 1, j => by
    rw [xx_succ, backs_go h t, backs_go h t]
    have := h (j + t)
    rw [show j + 1 + t = j + t + 1 by omega, show j + (t + 1) = j + t + 1 by omega]
    omega
theorem runs_settled (R : Rg L r n a) (h : (r + 1) * (n : Int) ≤ L) {t : Nat} (ht : n ≤ t + 1) : Runs r (xx r a t) := fun j => by
  have := runs_at R h ht j
  rw [xx_succ] at this
  omega
theorem backs_settled (R : Rg L r n a) (h : L ≤ (r + 1) * (n : Int)) {t : Nat} (ht : n ≤ t + 1) : Backs r (xx r a t) := fun j => by
  have := backs_at R h ht j
  rw [xx_succ] at this
  omega
theorem runs_room (R : Rg L r n a) (h : Runs r a) : (r + 1) * (n : Int) ≤ L := by
  have key : ∀ m : Nat, (r + 1) * (m : Int) ≤ a m - a 0 := by
    intro m
    induction m with
    | zero => simp
    | succ m ih =>
      have := h m
      have e : (r + 1) * ((m + 1 : Nat) : Int) = (r + 1) * (m : Int) + (r + 1) := by rw [Int.natCast_add, Int.mul_add]; simp
      rw [e]
      omega
  have h1 := key n
  have h2 := R.per 0
  rw [Nat.zero_add] at h2
  omega
theorem backs_tight (R : Rg L r n a) (h : Backs r a) : L ≤ (r + 1) * (n : Int) := by
  have key : ∀ m : Nat, a m - a 0 ≤ (r + 1) * (m : Int) := by
    intro m
    induction m with
    | zero => simp
    | succ m ih =>
      have := h m
      have e : (r + 1) * ((m + 1 : Nat) : Int) = (r + 1) * (m : Int) + (r + 1) := by rw [Int.natCast_add, Int.mul_add]; simp
      rw [e]
      omega
  have h1 := key n
  have h2 := R.per 0
  rw [Nat.zero_add] at h2
  omega
end
end Gm
end
section
set_option autoImplicit false
set_option linter.all false
namespace Gm
section
variable {L r : Int} {n : Nat} {a : Nat → Int}
/-! ### which carts are to be asked -/
theorem ask_room (R : Rg L r n a) (h : (r + 1) * (n : Int) ≤ L) {T j : Nat} : ∃ k, k < n ∧ k ≤ T ∧ bb r a (j + k) = wm (bb r a) j T := by
  have key : ∀ m : Nat, m ≤ T → bb r a (j + m) = wm (bb r a) j T → ∃ k, k < n ∧ k ≤ T ∧ bb r a (j + k) = wm (bb r a) j T := by
    intro m
    induction m using Nat.strongRecOn with
    | ind m ih =>
      intro hm e
      by_cases hn : m < n
      · exact ⟨m, hn, hm, e⟩
      · have := R.n0
        have e2 : j + m = (j + (m - n)) + n := by omega
        have e3 := bb_per R (j + (m - n))
        rw [← e2] at e3
        have e4 := wm_le (b := bb r a) (t := T) (j := j) (i := j + (m - n)) (by omega) (by omega)
        exact ih (m - n) (by omega) (by omega) (by omega)
  obtain ⟨i, h1, h2, h3⟩ := wm_at (b := bb r a) T j
  exact key (i - j) (by omega) (by rw [show j + (i - j) = i by omega]; exact h3.symm)
theorem ask_tight (R : Rg L r n a) (h : L ≤ (r + 1) * (n : Int)) {T j : Nat} : ∃ k, T < k + n ∧ k ≤ T ∧ bb r a (j + k) = wm (bb r a) j T := by
  have key : ∀ d m : Nat, T - m = d → m ≤ T → bb r a (j + m) = wm (bb r a) j T → ∃ k, T < k + n ∧ k ≤ T ∧ bb r a (j + k) = wm (bb r a) j T := by
    intro d
    induction d using Nat.strongRecOn with
    | ind d ih =>
      intro m hd hm e
      by_cases hn : T < m + n
      · exact ⟨m, hn, hm, e⟩
      · have := R.n0
        have e3 := bb_per R (j + m)
        have e4 := wm_le (b := bb r a) (t := T) (j := j) (i := j + m + n) (by omega) (by omega)
        exact ih (T - (m + n)) (by omega) (m + n) rfl (by omega) (by rw [show j + (m + n) = j + m + n by omega]; omega)
  obtain ⟨i, h1, h2, h3⟩ := wm_at (b := bb r a) T j
  exact key _ (i - j) rfl (by omega) (by rw [show j + (i - j) = i by omega]; exact h3.symm)
theorem term_eq {T j k : Nat} (hk : k ≤ T) : a (j + k) + r * ((T : Int) - (k : Int)) - (k : Int) = r * (T : Int) + (r + 1) * (j : Int) + bb r a (j + k) := by
  unfold bb
  have e1 : r * ((T : Int) - (k : Int)) = r * (T : Int) - r * (k : Int) := by rw [Int.mul_sub]
  have e2 : (r + 1) * ((j + k : Nat) : Int) = (r + 1) * (j : Int) + (r * (k : Int) + (k : Int)) := by
    rw [Int.natCast_add, Int.mul_add, Int.add_mul r 1 (k : Int)]
    simp
  rw [e1, e2]
  omega
end
/-! ### sorted lists -/
def srt (xs : List Int) : List Int := xs.mergeSort fun i j => decide (i ≤ j)
theorem srt_perm (xs : List Int) : (srt xs).Perm xs := List.mergeSort_perm _ _
theorem srt_le (xs : List Int) : (srt xs).Pairwise (· ≤ ·) := by
  have := List.pairwise_mergeSort (le := fun i j : Int => decide (i ≤ j)) (fun a b c h1 h2 => by simp only [decide_eq_true_eq] at *; omega) (fun a b => by simp only [Bool.or_eq_true, decide_eq_true_eq]; omega) xs
  exact this.imp fun h => of_decide_eq_true h
theorem lt_one : ∀ {xs ys : List Int}, xs.Pairwise (· < ·) → ys.Pairwise (· < ·) → (∀ k, k ∈ xs ↔ k ∈ ys) → xs = ys
  | [], [], _, _, _ => rfl
  | [], y :: ys, _, _, h => by
    have := (h y).mpr (by simp)
    cases this
  | x :: xs, [], _, _, h => by
    have := (h x).mp (by simp)
    cases this
  | x :: xs, y :: ys, p, q, h => by
    rw [List.pairwise_cons] at p q
    have e : x = y := by
      have hx := (h x).mp (by simp)
      have hy := (h y).mpr (by simp)
      rcases List.mem_cons.mp hx with e | hx
      · exact e
      · rcases List.mem_cons.mp hy with e | hy
        · exact e.symm
        · have h1 := p.1 y hy
          have h2 := q.1 x hx
          omega
    subst e
    congr 1
    refine lt_one p.2 q.2 fun k => ⟨fun hk => ?_, fun hk => ?_⟩
    · have h1 := p.1 k hk
      rcases List.mem_cons.mp ((h k).mp (List.mem_cons_of_mem _ hk)) with e | hk'
      · omega
      · exact hk'
    · have h1 := q.1 k hk
      rcases List.mem_cons.mp ((h k).mpr (List.mem_cons_of_mem _ hk)) with e | hk'
      · omega
      · exact hk'
theorem srt_lt {xs : List Int} (h : xs.Nodup) : (srt xs).Pairwise (· < ·) := by
  have h2 : (srt xs).Nodup := (srt_perm xs).nodup_iff.mpr h
  refine ((srt_le xs).and h2).imp fun h => ?_
  obtain ⟨a, b⟩ := h
  have b : _ ≠ _ := b
  omega
theorem srt_eq {xs ys : List Int} (hn : xs.Nodup) (hy : ys.Pairwise (· < ·)) (hm : ∀ k, k ∈ ys ↔ k ∈ xs) : srt xs = ys :=
  lt_one (srt_lt hn) hy fun k => by rw [(srt_perm xs).mem_iff, hm]
/-! ### a row of a ring -/
structure Row (L : Int) (row : List Int) : Prop where
  ne : row ≠ []
  lt : row.Pairwise (· < ·)
  lo : ∀ x ∈ row, 0 ≤ x ∧ x < L
/-- the row continued -/
def ext (L : Int) (row : List Int) (j : Nat) : Int := row.getD (j % row.length) 0 + L * ((j / row.length : Nat) : Int)
theorem ext_lt {L : Int} {row : List Int} {j : Nat} (h : j < row.length) : ext L row j = row.getD j 0 := by
  unfold ext
  rw [Nat.mod_eq_of_lt h, Nat.div_eq_of_lt h]
  simp
theorem ext_per {L : Int} {row : List Int} (h : row ≠ []) (j : Nat) : ext L row (j + row.length) = ext L row j + L := by
  have := List.length_pos_iff.mpr h
  unfold ext
  rw [Nat.add_mod_right, Nat.add_div_right _ this, Int.natCast_succ, Int.mul_add]
  omega
theorem getD_mem {row : List Int} {j : Nat} (h : j < row.length) : row.getD j 0 ∈ row := by
  rw [List.getD_eq_getElem?_getD, List.getElem?_eq_getElem h]
  exact List.getElem_mem h
theorem getD_lt {row : List Int} (h : row.Pairwise (· < ·)) {i j : Nat} (hi : i < j) (hj : j < row.length) : row.getD i 0 < row.getD j 0 := by
  rw [List.getD_eq_getElem?_getD, List.getD_eq_getElem?_getD, List.getElem?_eq_getElem hj, List.getElem?_eq_getElem (by omega)]
  exact List.pairwise_iff_getElem.mp h i j (by omega) hj hi
theorem ext_inc {L : Int} {row : List Int} (R : Row L row) (j : Nat) : ext L row j < ext L row (j + 1) := by
  have hp := List.length_pos_iff.mpr R.ne
  have hm := Nat.mod_lt j hp
  have hd := Nat.div_add_mod j row.length
  by_cases h : j % row.length + 1 < row.length
  · have e1 : (j + 1) % row.length = j % row.length + 1 := by
      rw [← hd]
      rw [Nat.add_assoc, Nat.mul_add_mod, Nat.mod_eq_of_lt h]
      rw [hd]
    have e2 : (j + 1) / row.length = j / row.length := by
      rw [← hd, Nat.add_assoc, Nat.mul_add_div hp, Nat.div_eq_of_lt h, hd]
      rfl
    unfold ext
    rw [e1, e2]
    have := getD_lt R.lt (Nat.lt_succ_self (j % row.length)) h
    show _ < row.getD (j % row.length + 1) 0 + _
    have h9 : (j % row.length).succ = j % row.length + 1 := rfl
    rw [h9] at this
    omega
  · have e0 : j % row.length + 1 = row.length := by omega
    have e1 : (j + 1) % row.length = 0 := by
      have : j + 1 = row.length * (j / row.length + 1) := by rw [Nat.mul_add]; omega
      rw [this, Nat.mul_mod_right]
    have e2 : (j + 1) / row.length = j / row.length + 1 := by
      have : j + 1 = row.length * (j / row.length + 1) := by rw [Nat.mul_add]; omega
      rw [this, Nat.mul_div_cancel_left _ hp]
    unfold ext
    rw [e1, e2, Int.natCast_add, Int.mul_add]
    have h1 := R.lo _ (getD_mem hm)
    have h2 := R.lo _ (getD_mem hp)
    simp only [Int.natCast_one, Int.mul_one]
    omega
theorem Row.rg {L r : Int} {row : List Int} (R : Row L row) (hr : 0 ≤ r) : Rg L r row.length (ext L row) := ⟨hr, List.length_pos_iff.mpr R.ne, ext_per R.ne, ext_inc R⟩
/-! ### the row that a sequence comes to -/
def rowOf (L : Int) (n : Nat) (y : Nat → Int) : List Int := srt ((List.range n).map fun j => y j % L)
section
variable {L r : Int} {n : Nat} {y : Nat → Int}
theorem inc_lt (Y : Rg L r n y) : ∀ {i j : Nat}, i < j → y i < y j
  | i, 0, h => by omega
  | i, j + 1, h => by
    have := Y.inc j
    by_cases hi : i = j
    · subst hi
      exact this
    · have := inc_lt Y (i := i) (j := j) (by omega)
      omega
theorem Rg.L0 (Y : Rg L r n y) : 0 < L := by
  have h1 := Y.per 0
  have h2 := inc_lt Y (i := 0) (j := 0 + n) (by have := Y.n0; omega)
  omega
theorem Rg.shift (Y : Rg L r n y) (s : Nat) (c : Int) : Rg L r n fun j => y (j + s) - c := ⟨Y.r0, Y.n0, fun j => by
  show y (j + n + s) - c = y (j + s) - c + L
  rw [show j + n + s = (j + s) + n by omega, Y.per]
  omega, fun j => by
  show y (j + s) - c < y (j + 1 + s) - c
  rw [show j + 1 + s = (j + s) + 1 by omega]
  have := Y.inc (j + s)
  omega⟩
theorem mod_per (Y : Rg L r n y) (j : Nat) : y (j + n) % L = y j % L := by
  rw [Y.per, Int.add_emod_right]
/-- the residues of n carts on end are those of the first n -/
theorem mem_res (Y : Rg L r n y) (s : Nat) (k : Int) : (∃ j, j < n ∧ y (j + s) % L = k) ↔ ∃ j, j < n ∧ y j % L = k := by
  induction s with
  | zero => exact Iff.rfl
  | succ s ih =>
    rw [← ih]
    have hn := Y.n0
    constructor
    · rintro ⟨j, hj, e⟩
      by_cases h : j + 1 < n
      · exact ⟨j + 1, h, by rw [show j + 1 + s = j + (s + 1) by omega]; exact e⟩
      · refine ⟨0, hn, ?_⟩
        rw [← e, show j + (s + 1) = (0 + s) + n by omega, mod_per Y]
    · rintro ⟨j, hj, e⟩
      by_cases h : 0 < j
      · exact ⟨j - 1, by omega, by rw [show j - 1 + (s + 1) = j + s by omega]; exact e⟩
      · refine ⟨n - 1, by omega, ?_⟩
        rw [show n - 1 + (s + 1) = (j + s) + n by omega, mod_per Y]
        exact e
theorem res_nodup (Y : Rg L r n y) : ((List.range n).map fun j => y j % L).Nodup := by
  have hL := Y.L0
  have key : ∀ i j, i < j → j < n → y i % L ≠ y j % L := by
    intro i j h1 h2 e
    have h3 := inc_lt Y h1
    have h4 := inc_lt Y (i := j) (j := i + n) (by omega)
    rw [Y.per] at h4
    have e1 := Int.mul_ediv_add_emod (y i) L
    have e2 := Int.mul_ediv_add_emod (y j) L
    have e3 : y j - y i = L * (y j / L - y i / L) := by rw [Int.mul_sub]; omega
    have h5 : 0 < y j / L - y i / L := by
      refine Int.lt_of_mul_lt_mul_left (a := L) ?_ (by omega)
      rw [← e3]
      omega
    have h6 : y j / L - y i / L < 1 := by
      refine Int.lt_of_mul_lt_mul_left (a := L) ?_ (by omega)
      rw [← e3]
      omega
    omega
  rw [List.nodup_iff_pairwise_ne, List.pairwise_map]
  refine List.Pairwise.imp_of_mem (fun {i j} hi hj h => ?_) (List.pairwise_lt_range (n := n))
  exact key i j h (List.mem_range.mp hj)
theorem mem_rowOf {k : Int} : k ∈ rowOf L n y ↔ ∃ j, j < n ∧ y j % L = k := by
  unfold rowOf
  rw [(srt_perm _).mem_iff, List.mem_map]
  constructor
  · rintro ⟨j, h1, h2⟩
    exact ⟨j, List.mem_range.mp h1, h2⟩
  · rintro ⟨j, h1, h2⟩
    exact ⟨j, List.mem_range.mpr h1, h2⟩
theorem rowOf_lt (Y : Rg L r n y) : (rowOf L n y).Pairwise (· < ·) := srt_lt (res_nodup Y)
theorem rowOf_len : (rowOf L n y).length = n := by
  unfold rowOf
  rw [(srt_perm _).length_eq, List.length_map, List.length_range]
theorem rowOf_row (Y : Rg L r n y) : Row L (rowOf L n y) := ⟨by
  intro h
  have := rowOf_len (L := L) (n := n) (y := y)
  rw [h] at this
  have := Y.n0
  simp at *
  omega, rowOf_lt Y, fun x hx => by
  obtain ⟨j, _, rfl⟩ := mem_rowOf.mp hx
  have := Y.L0
  exact ⟨Int.emod_nonneg _ (by omega), Int.emod_lt_of_pos _ this⟩⟩
/-- as a window of the sequence -/
theorem rowOf_win (Y : Rg L r n y) : ∃ (s : Nat) (q : Int), rowOf L n y = (List.range n).map fun j => y (j + s) - L * q := by
  have hL := Y.L0
  have hn := Y.n0
  -- the first cart that stands at L q or beyond
  have e1 := Int.mul_ediv_add_emod (y 0) L
  have e2 := Int.emod_nonneg (y 0) (show L ≠ 0 by omega)
  have e3 := Int.emod_lt_of_pos (y 0) hL
  have hq0 : y 0 < L * (y 0 / L + 1) := by rw [Int.mul_add]; omega
  have hqn : L * (y 0 / L + 1) ≤ y (0 + n) := by rw [Y.per, Int.mul_add]; omega
  generalize hQ : y 0 / L + 1 = q at hq0 hqn
  have ex : ∃ s, s ≤ n ∧ L * q ≤ y s ∧ (∀ i, i < s → y i < L * q) := by
    have key : ∀ m, m ≤ n → (∃ s, s ≤ m ∧ L * q ≤ y s ∧ ∀ i, i < s → y i < L * q) ∨ ∀ i, i ≤ m → y i < L * q := by
      intro m
      induction m with
      | zero =>
        intro _
        exact .inr fun i hi => by
          have : i = 0 := by omega
          subst this
          exact hq0
      | succ m ih =>
        intro hm
        rcases ih (by omega) with ⟨s, h1, h2⟩ | h
        · exact .inl ⟨s, by omega, h2⟩
        · by_cases hy : L * q ≤ y (m + 1)
          · exact .inl ⟨m + 1, Nat.le_refl _, hy, fun i hi => h i (by omega)⟩
          · refine .inr fun i hi => ?_
            by_cases e : i = m + 1
            · subst e
              omega
            · exact h i (by omega)
    rcases key n (Nat.le_refl _) with h | h
    · exact h
    · have := h n (Nat.le_refl _)
      rw [Nat.zero_add] at hqn
      omega
  obtain ⟨s, h1, h2, h3⟩ := ex
  refine ⟨s, q, ?_⟩
  have hs : s ≠ 0 := fun z => by
    subst z
    omega
  have inw : ∀ j, j < n → L * q ≤ y (j + s) ∧ y (j + s) < L * q + L := by
    intro j hj
    constructor
    · by_cases z : j = 0
      · subst z
        rw [Nat.zero_add]
        exact h2
      · have := inc_lt Y (i := s) (j := j + s) (by omega)
        omega
    · have h4 := h3 (s - 1) (by omega)
      have h5 := Y.per (s - 1)
      by_cases z : j = n - 1
      · rw [show j + s = s - 1 + n by omega]
        omega
      · have := inc_lt Y (i := j + s) (j := s - 1 + n) (by omega)
        omega
  have hmod : ∀ j, j < n → y (j + s) % L = y (j + s) - L * q := by
    intro j hj
    obtain ⟨w1, w2⟩ := inw j hj
    have e5 : y (j + s) = (y (j + s) - L * q) + L * q := by omega
    rw [e5, Int.add_mul_emod_self_left, Int.emod_eq_of_lt (by omega) (by omega)]
    omega
  refine lt_one (rowOf_lt Y) ?_ fun k => ?_
  · rw [List.pairwise_map]
    refine List.Pairwise.imp (fun {i j} h => ?_) (List.pairwise_lt_range (n := n))
    have := inc_lt Y (i := i + s) (j := j + s) (by omega)
    omega
  · rw [mem_rowOf, ← mem_res Y s, List.mem_map]
    constructor
    · rintro ⟨j, hj, e⟩
      exact ⟨j, List.mem_range.mpr hj, by rw [← hmod j hj]; exact e⟩
    · rintro ⟨j, hj, e⟩
      have hj := List.mem_range.mp hj
      exact ⟨j, hj, by rw [hmod j hj]; exact e⟩
theorem ext_win {f : Nat → Int} (hp : ∀ j, f (j + n) = f j + L) (hn : 0 < n) (j : Nat) : ext L ((List.range n).map f) j = f j := by
  have hl : ((List.range n).map f).length = n := by rw [List.length_map, List.length_range]
  have key : ∀ m i, i < n → f (i + n * m) = f i + L * (m : Int) := by
    intro m
    induction m with
    | zero => intro i _; simp
    | succ m ih =>
      intro i hi
      rw [Nat.mul_succ, ← Nat.add_assoc, hp, ih i hi, Int.natCast_succ, Int.mul_add]
      omega
  unfold ext
  rw [hl]
  have hm := Nat.mod_lt j hn
  have e : ((List.range n).map f).getD (j % n) 0 = f (j % n) := by
    rw [List.getD_eq_getElem?_getD, List.getElem?_map, List.getElem?_range hm]
    rfl
  rw [e, ← key (j / n) (j % n) hm]
  congr 1
  have := Nat.mod_add_div j n
  omega
/-- the row's own carts, continued, are the sequence's, shifted -/
theorem ext_rowOf (Y : Rg L r n y) : ∃ (s : Nat) (q : Int), ∀ j, ext L (rowOf L n y) j = y (j + s) - L * q := by
  obtain ⟨s, q, e⟩ := rowOf_win Y
  refine ⟨s, q, fun j => ?_⟩
  rw [e]
  exact ext_win (f := fun j => y (j + s) - L * q) (Y.shift s (L * q)).per Y.n0 j
/-- shifted, it comes to the same row -/
theorem rowOf_shift (Y : Rg L r n y) (s : Nat) (q : Int) : rowOf L n (fun j => y (j + s) - L * q) = rowOf L n y := by
  refine lt_one (rowOf_lt (Y.shift s (L * q))) (rowOf_lt Y) fun k => ?_
  rw [mem_rowOf, mem_rowOf, ← mem_res Y s]
  have e : ∀ j, (y (j + s) - L * q) % L = y (j + s) % L := fun j => by
    rw [Int.sub_mul_emod_self_left]
  constructor
  · rintro ⟨j, hj, h⟩
    exact ⟨j, hj, by rw [← e]; exact h⟩
  · rintro ⟨j, hj, h⟩
    exact ⟨j, hj, by rw [e]; exact h⟩
/-- a row is the row of its own carts -/
theorem rowOf_ext {row : List Int} (R : Row L row) : rowOf L row.length (ext L row) = row := by
  refine srt_eq (res_nodup (R.rg (Int.le_refl 0))) R.lt fun k => ?_
  rw [List.mem_map]
  have key : ∀ j, j < row.length → ext L row j % L = row.getD j 0 := fun j hj => by
    rw [ext_lt hj]
    have := R.lo _ (getD_mem hj)
    exact Int.emod_eq_of_lt this.1 this.2
  constructor
  · intro hk
    obtain ⟨j, hj, e⟩ := List.getElem_of_mem hk
    refine ⟨j, List.mem_range.mpr hj, ?_⟩
    rw [key j hj, List.getD_eq_getElem?_getD, List.getElem?_eq_getElem hj, ← e]
    rfl
  · rintro ⟨j, hj, e⟩
    have hj := List.mem_range.mp hj
    rw [← e, key j hj]
    exact getD_mem hj
end
end Gm
end
section
set_option autoImplicit false
set_option linter.all false
namespace Gm
def nextsP (L : Int) (xs : List Int) : List Int := xs.drop 1 ++ [xs.getD 0 0 + L]
def gapsP (L : Int) (xs : List Int) : List Int := (xs.zip (nextsP L xs)).map fun p => p.2 - p.1 - 1
def movedP (L : Int) (xs some : List Int) : List Int := srt ((xs.zip some).map fun p => (p.1 + p.2) % L)
def nextP (L r : Int) (xs : List Int) : List Int := movedP L xs ((gapsP L xs).map (min r))
theorem list_range {xs : List Int} {f : Nat → Int} {n : Nat} (hl : xs.length = n) (h : ∀ j, j < n → xs.getD j 0 = f j) : xs = (List.range n).map f := by
  refine List.ext_getElem (by rw [List.length_map, List.length_range, hl]) fun j h1 h2 => ?_
  have := h j (by omega)
  rw [List.getD_eq_getElem?_getD, List.getElem?_eq_getElem h1] at this
  simpa using this
theorem getD_range {f : Nat → Int} {n j : Nat} (h : j < n) : ((List.range n).map f).getD j 0 = f j := by
  rw [List.getD_eq_getElem?_getD, List.getElem?_map, List.getElem?_range h]
  rfl
section
variable {L r : Int} {xs : List Int}
theorem self_range : xs = (List.range xs.length).map (ext L xs) := list_range rfl fun j hj => (ext_lt hj).symm
theorem nexts_range (h : xs ≠ []) : nextsP L xs = (List.range xs.length).map fun j => ext L xs (j + 1) := by
  have hp := List.length_pos_iff.mpr h
  refine list_range (by unfold nextsP; simp; omega) fun j hj => ?_
  unfold nextsP
  by_cases hj2 : j + 1 < xs.length
  · rw [ext_lt hj2, List.getD_eq_getElem?_getD, List.getElem?_append_left (by simp; omega), List.getElem?_drop, List.getD_eq_getElem?_getD, Nat.add_comm]
  · have e : j + 1 = 0 + xs.length := by omega
    rw [e, ext_per h, ext_lt hp, List.getD_eq_getElem?_getD, List.getElem?_append_right (by simp; omega)]
    have : j - (xs.drop 1).length = 0 := by simp; omega
    rw [this]
    rfl
theorem zip_range {n : Nat} {f g : Nat → Int} : ((List.range n).map f).zip ((List.range n).map g) = (List.range n).map fun j => (f j, g j) := by
  rw [List.zip_map', ]
theorem gaps_range (h : xs ≠ []) : gapsP L xs = (List.range xs.length).map fun j => ext L xs (j + 1) - ext L xs j - 1 := by
  unfold gapsP
  rw [nexts_range h]
  conv => lhs; rw [show xs.zip ((List.range xs.length).map fun j => ext L xs (j + 1)) = ((List.range xs.length).map (ext L xs)).zip ((List.range xs.length).map fun j => ext L xs (j + 1)) from by rw [← self_range]]
  rw [zip_range, List.map_map]
  rfl
theorem moved_range {f : Nat → Int} : movedP L xs ((List.range xs.length).map f) = rowOf L xs.length fun j => ext L xs j + f j := by
  unfold movedP rowOf
  conv => lhs; rw [show xs.zip ((List.range xs.length).map f) = ((List.range xs.length).map (ext L xs)).zip ((List.range xs.length).map f) from by rw [← self_range]]
  rw [zip_range, List.map_map]
  rfl
theorem next_range (h : xs ≠ []) : nextP L r xs = rowOf L xs.length (xx r (ext L xs) 1) := by
  unfold nextP
  rw [gaps_range h, List.map_map, moved_range]
  congr 1
  funext j
  rw [show (1 : Nat) = 0 + 1 from rfl, xx_succ, xx_zero, xx_zero]
  show ext L xs j + min r (ext L xs (j + 1) - ext L xs j - 1) = _
  omega
end
section
variable {L r : Int} {n : Nat} {y : Nat → Int}
theorem xx_shift (s : Nat) (c : Int) : ∀ t j, xx r (fun j => y (j + s) - c) t j = xx r y t (j + s) - c
  | 0, j => by rw [xx_zero, xx_zero]
  | t + 1, j => by
    rw [xx_succ, xx_succ, xx_shift s c t, xx_shift s c t, show j + 1 + s = j + s + 1 by omega]
    omega
/-- the next row of the row that y comes to -/
theorem next_rowOf (Y : Rg L r n y) : nextP L r (rowOf L n y) = rowOf L n (xx r y 1) := by
  have R := rowOf_row Y
  obtain ⟨s, q, e⟩ := ext_rowOf Y
  rw [next_range R.ne, rowOf_len]
  have e2 : ext L (rowOf L n y) = fun j => y (j + s) - L * q := funext e
  rw [e2]
  have e3 : xx r (fun j => y (j + s) - L * q) 1 = fun j => xx r y 1 (j + s) - L * q := funext fun j => xx_shift s (L * q) 1 j
  rw [e3]
  exact rowOf_shift (xx_rg Y 1) s q
/-- all that a periodic sequence's window shows -/
theorem all_of_win {P : Nat → Prop} (hp : ∀ j, P (j + n) → P j) (hp2 : ∀ j, P j → P (j + n)) (hn : 0 < n) (s : Nat) (h : ∀ j, j < n → P (j + s)) : ∀ j, P j := by
  have up : ∀ m j, P (j + n * m) → P j := by
    intro m
    induction m with
    | zero => intro j h; simpa using h
    | succ m ih =>
      intro j h
      refine ih j (hp _ ?_)
      rw [Nat.mul_succ, ← Nat.add_assoc] at h
      exact h
  have dn : ∀ m j, P j → P (j + n * m) := by
    intro m
    induction m with
    | zero => intro j h; simpa using h
    | succ m ih =>
      intro j h
      rw [Nat.mul_succ, ← Nat.add_assoc]
      exact hp2 _ (ih j h)
  intro j
  have hm := Nat.mod_lt (j + n * s - s) hn
  have hd := Nat.div_add_mod (j + n * s - s) n
  have hs : s ≤ n * s := Nat.le_mul_of_pos_left s hn
  have h1 := dn ((j + n * s - s) / n) _ (h ((j + n * s - s) % n) hm)
  have e : (j + n * s - s) % n + s + n * ((j + n * s - s) / n) = j + n * s := by omega
  rw [e] at h1
  exact up s j h1
theorem gap_per (Y : Rg L r n y) (j : Nat) : y (j + n + 1) - y (j + n) - 1 = y (j + 1) - y j - 1 := by
  rw [show j + n + 1 = (j + 1) + n by omega, Y.per, Y.per]
  omega
/-- min of the gaps, max of the gaps -/
theorem runs_gaps (Y : Rg L r n y) : (∀ g ∈ gapsP L (rowOf L n y), r ≤ g) ↔ Runs r y := by
  have R := rowOf_row Y
  obtain ⟨s, q, e⟩ := ext_rowOf Y
  rw [gaps_range R.ne, rowOf_len]
  constructor
  · intro h
    refine all_of_win (P := fun j => r ≤ y (j + 1) - y j - 1) (fun j h => by rw [gap_per Y] at h; exact h) (fun j h => by rw [gap_per Y]; exact h) Y.n0 s fun j hj => ?_
    have := h _ (List.mem_map.mpr ⟨j, List.mem_range.mpr hj, rfl⟩)
    rw [e, e, show j + 1 + s = j + s + 1 by omega] at this
    omega
  · intro h g hg
    obtain ⟨j, hj, rfl⟩ := List.mem_map.mp hg
    rw [e, e, show j + 1 + s = j + s + 1 by omega]
    have := h (j + s)
    omega
theorem backs_gaps (Y : Rg L r n y) : (∀ g ∈ gapsP L (rowOf L n y), g ≤ r) ↔ Backs r y := by
  have R := rowOf_row Y
  obtain ⟨s, q, e⟩ := ext_rowOf Y
  rw [gaps_range R.ne, rowOf_len]
  constructor
  · intro h
    refine all_of_win (P := fun j => y (j + 1) - y j - 1 ≤ r) (fun j h => by rw [gap_per Y] at h; exact h) (fun j h => by rw [gap_per Y]; exact h) Y.n0 s fun j hj => ?_
    have := h _ (List.mem_map.mpr ⟨j, List.mem_range.mpr hj, rfl⟩)
    rw [e, e, show j + 1 + s = j + s + 1 by omega] at this
    omega
  · intro h g hg
    obtain ⟨j, hj, rfl⟩ := List.mem_map.mp hg
    rw [e, e, show j + 1 + s = j + s + 1 by omega]
    have := h (j + s)
    omega
end
/-! ### a row's walk -/
section
variable {L r : Int} {xs : List Int}
/-- the row at t -/
def rowT (L r : Int) (xs : List Int) (t : Nat) : List Int := rowOf L xs.length (xx r (ext L xs) t)
theorem rowT_zero (R : Row L xs) : rowT L r xs 0 = xs := by
  have e : xx r (ext L xs) 0 = ext L xs := funext fun j => xx_zero j
  unfold rowT
  rw [e]
  exact rowOf_ext R
theorem rowT_len {t : Nat} : (rowT L r xs t).length = xs.length := rowOf_len
theorem rowT_row (R : Row L xs) (hr : 0 ≤ r) (t : Nat) : Row L (rowT L r xs t) := rowOf_row (xx_rg (R.rg hr) t)
theorem rowT_next (R : Row L xs) (hr : 0 ≤ r) (t : Nat) : nextP L r (rowT L r xs t) = rowT L r xs (t + 1) := by
  unfold rowT
  rw [next_rowOf (xx_rg (R.rg hr) t)]
  congr 1
  funext j
  exact (xx_add t 1 j).symm
def runsT (r : Int) (a : Nat → Int) (t : Nat) : Prop := Runs r (xx r a t)
def backsT (r : Int) (a : Nat → Int) (t : Nat) : Prop := Backs r (xx r a t)
theorem least_of {P : Nat → Prop} {m : Nat} (h : P m) : ∃ s, s ≤ m ∧ P s ∧ ∀ t, t < s → ¬ P t := by
  induction m using Nat.strongRecOn with
  | ind m ih =>
    by_cases q : ∃ t, t < m ∧ P t
    · obtain ⟨t, h1, h2⟩ := q
      obtain ⟨s, h3, h4⟩ := ih t h1 h2
      exact ⟨s, by omega, h4⟩
    · exact ⟨m, Nat.le_refl _, h, fun t ht hp => q ⟨t, ht, hp⟩⟩
/-- the moment at which it settles -/
theorem settles_at {n : Nat} {a : Nat → Int} (R : Rg L r n a) : ∃ s, s < n ∧ (Runs r (xx r a s) ∨ Backs r (xx r a s)) ∧ ∀ t, t < s → ¬ (Runs r (xx r a t) ∨ Backs r (xx r a t)) := by
  have hn := R.n0
  have h : Runs r (xx r a (n - 1)) ∨ Backs r (xx r a (n - 1)) := by
    by_cases q : (r + 1) * (n : Int) ≤ L
    · exact .inl (runs_settled R q (by omega))
    · exact .inr (backs_settled R (by omega) (by omega))
  obtain ⟨s, h1, h2, h3⟩ := least_of (P := fun t => Runs r (xx r a t) ∨ Backs r (xx r a t)) h
  exact ⟨s, by omega, h2, h3⟩
/-- settled, it comes round in L beats -/
theorem round_L {n : Nat} {y : Nat → Int} (Y : Rg L r n y) (h : Runs r y ∨ Backs r y) : ∃ m : Nat, 0 < m ∧ (m : Int) = L ∧ rowOf L n (xx r y m) = rowOf L n y := by
  have hL := Y.L0
  refine ⟨L.toNat, by omega, by omega, ?_⟩
  rcases h with h | h
  · have e : xx r y L.toNat = fun j => y (j + 0) - L * (-r) := by
      funext j
      rw [runs_go h]
      have : (L.toNat : Int) = L := by omega
      rw [this, Int.mul_neg, Int.mul_comm L r]
      simp
    rw [e]
    exact rowOf_shift Y 0 (-r)
  · have e : xx r y L.toNat = fun j => y (j + L.toNat) - L * 1 := by
      funext j
      rw [backs_go h]
      omega
    rw [e]
    exact rowOf_shift Y L.toNat 1
end
end Gm
end
section
set_option Elab.async false
set_option autoImplicit false
set_option linter.all false
set_option maxRecDepth 100000
set_option maxHeartbeats 4000000
namespace Mi
open PySem
/-! ### == of plain data -/
mutual
def eqb : D → D → Bool
  | .non, .non => true
  | .bl a, .bl b => a == b
  | .bl a, .int j => (if a then 1 else 0) == j
  | .int i, .bl b => i == (if b then 1 else 0)
  | .int i, .int j => i == j
  | .str x, .str y => x == y
  | .lst xs, .lst ys => eqbs xs ys
  | .lst xs, .scr ys => eqbs xs ys
  | .scr xs, .lst ys => eqbs xs ys
  | .scr xs, .scr ys => eqbs xs ys
  | .tup xs, .tup ys => eqbs xs ys
  | _, _ => false
def eqbs : List D → List D → Bool
  | [], [] => true
  | x :: xs, y :: ys => eqb x y && eqbs xs ys
  | _, _ => false
end
mutual
/-- no thing that changes, all its texts have signs, at most k deep -/
def D.okd : D → Nat → Bool
  | .ref _, _ => false
  | .rw _, _ => false
  | .str x, _ => PyData.canLay0 (.str x)
  | .lst xs, k => decide (0 < k) && D.okds xs (k - 1)
  | .scr xs, k => decide (0 < k) && D.okds xs (k - 1)
  | .tup xs, k => decide (0 < k) && D.okds xs (k - 1)
  | _, _ => true
def D.okds : List D → Nat → Bool
  | [], _ => true
  | x :: xs, k => D.okd x k && D.okds xs k
end
mutual
theorem okd_py : ∀ (d : D) (k : Nat), d.okd k = true → ∃ p, D.py d = some p ∧ p.canLay0 = true ∧ p.depth ≤ k
  | .non, k, h => ⟨.none, rfl, rfl, Nat.zero_le _⟩
  | .bl b, k, h => ⟨.bool b, rfl, rfl, Nat.zero_le _⟩
  | .int i, k, h => ⟨.int i, rfl, rfl, Nat.zero_le _⟩
  | .str x, k, h => ⟨.str x, rfl, h, Nat.zero_le _⟩
  | .ref _, k, h => by cases h
  | .rw _, k, h => by cases h
  | .lst xs, k, h => by
    simp only [D.okd, Bool.and_eq_true, decide_eq_true_eq] at h
    obtain ⟨ps, e, h1, h2⟩ := okds_py xs (k - 1) h.2
    exact ⟨.list ps, by rw [D.py, e]; rfl, by simpa [PyData.canLay0] using h1, by simp only [PyData.depth]; omega⟩
  | .scr xs, k, h => by
    simp only [D.okd, Bool.and_eq_true, decide_eq_true_eq] at h
    obtain ⟨ps, e, h1, h2⟩ := okds_py xs (k - 1) h.2
    exact ⟨.list ps, by rw [D.py, e]; rfl, by simpa [PyData.canLay0] using h1, by simp only [PyData.depth]; omega⟩
  | .tup xs, k, h => by
    simp only [D.okd, Bool.and_eq_true, decide_eq_true_eq] at h
    obtain ⟨ps, e, h1, h2⟩ := okds_py xs (k - 1) h.2
    exact ⟨.tuple ps, by rw [D.py, e]; rfl, by simpa [PyData.canLay0] using h1, by simp only [PyData.depth]; omega⟩
theorem okds_py : ∀ (ds : List D) (k : Nat), D.okds ds k = true → ∃ ps, D.pys ds = some ps ∧ PyData.canLayAll0 ps = true ∧ PyData.depthAll ps ≤ k
  | [], k, h => ⟨[], rfl, rfl, Nat.zero_le _⟩
  | x :: xs, k, h => by
    simp only [D.okds, Bool.and_eq_true] at h
    obtain ⟨p, e1, h1, h2⟩ := okd_py x k h.1
    obtain ⟨ps, e2, h3, h4⟩ := okds_py xs k h.2
    refine ⟨p :: ps, by rw [D.pys, e1, e2]; rfl, by simp [PyData.canLayAll0, h1, h3], ?_⟩
    simp only [PyData.depthAll]
    omega
end
mutual
theorem eqb_py : ∀ (x y : D) (p q : PyData), D.py x = some p → D.py y = some q → PyData.eqv p q = eqb x y
  | .lst xs, .lst ys, p, q, h1, h2 => by
    simp only [D.py, Option.map_eq_some_iff] at h1 h2
    obtain ⟨ps, e1, rfl⟩ := h1
    obtain ⟨qs, e2, rfl⟩ := h2
    simpa only [PyData.eqv, eqb] using eqbs_py xs ys ps qs e1 e2
  | .lst xs, .scr ys, p, q, h1, h2 => by
    simp only [D.py, Option.map_eq_some_iff] at h1 h2
    obtain ⟨ps, e1, rfl⟩ := h1
    obtain ⟨qs, e2, rfl⟩ := h2
    simpa only [PyData.eqv, eqb] using eqbs_py xs ys ps qs e1 e2
  | .scr xs, .lst ys, p, q, h1, h2 => by
    simp only [D.py, Option.map_eq_some_iff] at h1 h2
    obtain ⟨ps, e1, rfl⟩ := h1
    obtain ⟨qs, e2, rfl⟩ := h2
    simpa only [PyData.eqv, eqb] using eqbs_py xs ys ps qs e1 e2
  | .scr xs, .scr ys, p, q, h1, h2 => by
    simp only [D.py, Option.map_eq_some_iff] at h1 h2
    obtain ⟨ps, e1, rfl⟩ := h1
    obtain ⟨qs, e2, rfl⟩ := h2
    simpa only [PyData.eqv, eqb] using eqbs_py xs ys ps qs e1 e2
  | .tup xs, .tup ys, p, q, h1, h2 => by
    simp only [D.py, Option.map_eq_some_iff] at h1 h2
    obtain ⟨ps, e1, rfl⟩ := h1
    obtain ⟨qs, e2, rfl⟩ := h2
    simpa only [PyData.eqv, eqb] using eqbs_py xs ys ps qs e1 e2
  | .non, y, p, q, h1, h2 => by
    cases h1
    cases y <;> simp only [D.py, Option.map_eq_some_iff, Option.some.injEq, reduceCtorEq] at h2 <;> first | (subst h2; rfl) | (obtain ⟨_, _, rfl⟩ := h2; rfl)
  | .bl b, y, p, q, h1, h2 => by
    cases h1
    cases y <;> simp only [D.py, Option.map_eq_some_iff, Option.some.injEq, reduceCtorEq] at h2 <;> first | (subst h2; rfl) | (obtain ⟨_, _, rfl⟩ := h2; rfl)
  | .int i, y, p, q, h1, h2 => by
    cases h1
    cases y <;> simp only [D.py, Option.map_eq_some_iff, Option.some.injEq, reduceCtorEq] at h2 <;> first | (subst h2; rfl) | (obtain ⟨_, _, rfl⟩ := h2; rfl)
  | .str x, y, p, q, h1, h2 => by
    cases h1
    cases y <;> simp only [D.py, Option.map_eq_some_iff, Option.some.injEq, reduceCtorEq] at h2 <;> first | (subst h2; rfl) | (obtain ⟨_, _, rfl⟩ := h2; rfl)
  | .ref _, y, p, q, h1, h2 => by cases h1
  | .rw _, y, p, q, h1, h2 => by cases h1
  | .lst xs, .non, p, q, h1, h2 | .lst xs, .bl _, p, q, h1, h2 | .lst xs, .int _, p, q, h1, h2 | .lst xs, .str _, p, q, h1, h2 | .scr xs, .non, p, q, h1, h2 | .scr xs, .bl _, p, q, h1, h2 | .scr xs, .int _, p, q, h1, h2 | .scr xs, .str _, p, q, h1, h2 | .tup xs, .non, p, q, h1, h2 | .tup xs, .bl _, p, q, h1, h2 | .tup xs, .int _, p, q, h1, h2 | .tup xs, .str _, p, q, h1, h2 => by
    simp only [D.py, Option.map_eq_some_iff] at h1
    obtain ⟨_, _, rfl⟩ := h1
    cases h2
    rfl
  | .lst xs, .tup ys, p, q, h1, h2 | .scr xs, .tup ys, p, q, h1, h2 | .tup xs, .lst ys, p, q, h1, h2 | .tup xs, .scr ys, p, q, h1, h2 => by
    simp only [D.py, Option.map_eq_some_iff] at h1 h2
    obtain ⟨_, _, rfl⟩ := h1
    obtain ⟨_, _, rfl⟩ := h2
    rfl
  | .lst xs, .ref _, p, q, h1, h2 | .scr xs, .ref _, p, q, h1, h2 | .tup xs, .ref _, p, q, h1, h2 | .lst xs, .rw _, p, q, h1, h2 | .scr xs, .rw _, p, q, h1, h2 | .tup xs, .rw _, p, q, h1, h2 => by cases h2
theorem eqbs_py : ∀ (xs ys : List D) (ps qs : List PyData), D.pys xs = some ps → D.pys ys = some qs → PyData.eqvAll ps qs = eqbs xs ys
  | [], ys, ps, qs, h1, h2 => by
    cases h1
    cases ys with
    | nil =>
      cases h2
      rfl
    | cons y ys =>
      rw [D.pys, Option.bind_eq_some_iff] at h2
      obtain ⟨q, e1, h2⟩ := h2
      rw [Option.map_eq_some_iff] at h2
      obtain ⟨qs', e2, rfl⟩ := h2
      rfl
  | x :: xs, ys, ps, qs, h1, h2 => by
    rw [D.pys, Option.bind_eq_some_iff] at h1
    obtain ⟨p, e1, h1⟩ := h1
    rw [Option.map_eq_some_iff] at h1
    obtain ⟨ps', e2, rfl⟩ := h1
    cases ys with
    | nil =>
      cases h2
      rfl
    | cons y ys =>
      rw [D.pys, Option.bind_eq_some_iff] at h2
      obtain ⟨q, e3, h2⟩ := h2
      rw [Option.map_eq_some_iff] at h2
      obtain ⟨qs', e4, rfl⟩ := h2
      simp only [PyData.eqvAll, eqbs]
      rw [eqb_py x y p q e1 e3, eqbs_py xs ys ps' qs' e2 e4]
end
theorem shaped_of {d : D} (h : d.okd 64 = true) : ∃ p, D.py d = some p ∧ SeqAt.shaped p = true := by
  obtain ⟨p, e, h1, h2⟩ := okd_py d 64 h
  exact ⟨p, e, by unfold SeqAt.shaped; rw [h1]; simpa using h2⟩
theorem eqD_eqb {x y : D} (hx : x.okd 64 = true) (hy : y.okd 64 = true) : eqD x y = some (eqb x y) := by
  obtain ⟨p, e1, s1⟩ := shaped_of hx
  obtain ⟨q, e2, s2⟩ := shaped_of hy
  have key : ((D.py x).bind fun p => (D.py y).bind fun q => if SeqAt.shaped p && SeqAt.shaped q then some (PyData.eqv p q) else none) = some (eqb x y) := by
    rw [e1, e2]
    simp only [Option.bind_some, s1, s2, Bool.and_self, if_true, eqb_py x y p q e1 e2]
  unfold eqD
  split
  · rename_i i j
    simp only [eqb]
    by_cases h : i = j <;> simp [h]
  · rename_i i j
    simp only [eqb]
    by_cases h : i = j <;> simp [h]
  · rename_i i j
    simp only [eqb]
    by_cases h : i = j <;> simp [h]
  · exact key
theorem inD_lst {x : D} {ys : List D} (hx : x.okd 64 = true) (hy : D.okds ys 63 = true) : inD x (.lst ys) = some (ys.any fun y => eqb y x) := by
  obtain ⟨p, e1, s1⟩ := shaped_of hx
  obtain ⟨qs, e2, h1, h2⟩ := okds_py ys 63 hy
  unfold inD
  simp only [e1, e2, Option.bind_some]
  have s2 : SeqAt.shaped (.list qs) = true := by
    unfold SeqAt.shaped
    have h3 : (PyData.list qs).depth ≤ 64 := by
      show PyData.depthAll qs + 1 ≤ 64
      omega
    have h4 : (PyData.list qs).canLay0 = true := h1
    rw [h4, Bool.true_and]
    exact decide_eq_true h3
  rw [s1, s2]
  simp only [Bool.and_self, if_true, Option.some.injEq]
  clear h1 h2 s2 hy
  induction ys generalizing qs with
  | nil =>
    cases e2
    rfl
  | cons y ys ih =>
    rw [D.pys, Option.bind_eq_some_iff] at e2
    obtain ⟨q, e3, e2⟩ := e2
    rw [Option.map_eq_some_iff] at e2
    obtain ⟨qs', e4, rfl⟩ := e2
    simp only [List.any_cons]
    rw [eqb_py y x q p e3 e1, ih qs' e4]
theorem indexD_lst {x : D} {ys : List D} (hx : x.okd 64 = true) (hy : D.okds ys 63 = true) : indexD (.lst ys) x = (ys.findIdx? fun y => eqb y x).map fun j => .int (j : Nat) := by
  obtain ⟨p, e1, s1⟩ := shaped_of hx
  obtain ⟨qs, e2, h1, h2⟩ := okds_py ys 63 hy
  unfold indexD
  simp only [e1, e2, Option.bind_some]
  have s2 : SeqAt.shaped (.list qs) = true := by
    unfold SeqAt.shaped
    have h3 : (PyData.list qs).depth ≤ 64 := by
      show PyData.depthAll qs + 1 ≤ 64
      omega
    have h4 : (PyData.list qs).canLay0 = true := h1
    rw [h4, Bool.true_and]
    exact decide_eq_true h3
  rw [s1, s2]
  simp only [Bool.and_self, if_true]
  congr 1
  clear h1 h2 s2 hy
  induction ys generalizing qs with
  | nil =>
    cases e2
    rfl
  | cons y ys ih =>
    rw [D.pys, Option.bind_eq_some_iff] at e2
    obtain ⟨q, e3, e2⟩ := e2
    rw [Option.map_eq_some_iff] at e2
    obtain ⟨qs', e4, rfl⟩ := e2
    simp only [List.findIdx?_cons]
    rw [eqb_py y x q p e3 e1, ih qs' e4]
/-! rows of ints -/
@[simp] theorem okds_ints (xs : List Int) (k : Nat) : D.okds (xs.map .int) k = true := by
  induction xs with
  | nil => rfl
  | cons x xs ih => simp [D.okds, D.okd, ih]
@[simp] theorem okd_row (xs : List Int) {k : Nat} (h : 0 < k) : (row xs).okd k = true := by
  unfold row
  simp [D.okd, h]
@[simp] theorem okds_rows (rs : List (List Int)) {k : Nat} (h : 0 < k) : D.okds (rs.map row) k = true := by
  induction rs with
  | nil => rfl
  | cons x xs ih => simp [D.okds, ih, h]
theorem eqbs_ints (xs ys : List Int) : eqbs (xs.map .int) (ys.map .int) = decide (xs = ys) := by
  induction xs generalizing ys with
  | nil => cases ys <;> simp [eqbs]
  | cons x xs ih =>
    cases ys with
    | nil => simp [eqbs]
    | cons y ys =>
      simp only [List.map_cons, eqbs, eqb, ih]
      by_cases h1 : x = y <;> by_cases h2 : xs = ys <;> simp [h1, h2]
@[simp] theorem eqb_row (xs ys : List Int) : eqb (row xs) (row ys) = decide (xs = ys) := by
  unfold row
  simp only [eqb, eqbs_ints]
@[simp] theorem eqb_ints (xs ys : List Int) : eqb (.lst (xs.map .int)) (.lst (ys.map .int)) = decide (xs = ys) := by simp only [eqb, eqbs_ints]
@[simp] theorem ints_map (xs : List Int) : ints? (xs.map .int) = some xs := by
  induction xs with
  | nil => rfl
  | cons x xs ih => simp [ints?, ih]
@[simp] theorem items_row (xs : List Int) : items (row xs) = some (xs.map .int) := rfl
@[simp] theorem items_lst (xs : List D) : items (.lst xs) = some xs := rfl
@[simp] theorem items_tup (xs : List D) : items (.tup xs) = some xs := rfl
@[simp] theorem isLst_lst (xs : List D) : isLst (.lst xs) = true := rfl
theorem truths_bls : ∀ (bs : List Bool), truths (bs.map .bl) = some bs
  | [] => rfl
  | b :: bs => by simp [truths, truthD, truths_bls bs]
theorem atI_nat {α : Type} {xs : List α} {i : Nat} {x : α} (h : xs[i]? = some x) : L2.atI xs (i : Int) = some x := by
  obtain ⟨hi, e⟩ := List.getElem?_eq_some_iff.mp h
  unfold L2.atI L2.ixN
  rw [if_pos (by omega), if_pos (by omega)]
  simpa using h
theorem atI_ok {α : Type} {xs : List α} {i : Int} (h0 : 0 ≤ i) (h1 : i < xs.length) : L2.atI xs i = xs[i.toNat]? := by
  unfold L2.atI L2.ixN
  rw [if_pos h0, if_pos h1]
  rfl
theorem atI_last {α : Type} {xs : List α} (h : xs ≠ []) : L2.atI xs (-1) = some (xs.getLast h) := by
  have := List.length_pos_iff.mpr h
  unfold L2.atI L2.ixN
  rw [if_neg (by omega), if_pos (by omega)]
  show xs[((-1 : Int) + (xs.length : Int)).toNat]? = _
  have e : ((-1 : Int) + (xs.length : Int)).toNat = xs.length - 1 := by omega
  rw [e, List.getLast_eq_getElem, List.getElem?_eq_getElem]
theorem zipD_ints (xs ys : List Int) : zipD (xs.map .int) (ys.map .int) = (xs.zip ys).map fun p => .tup [.int p.1, .int p.2] := by
  unfold zipD
  rw [List.zip_map, List.map_map]
  rfl
theorem enumD_ints (xs : List Int) : enumD (xs.map .int) = (xs.zipIdx).map fun p => .tup [.int (p.2 : Nat), .int p.1] := by
  unfold enumD
  rw [List.zipIdx_map, List.map_map]
  rfl
end Mi
namespace Mi
open PySem
@[simp] theorem asg_one (ρ : En) (i : Nat) (d : D) : asg ρ [i] d = some (ρ.set i (.v d)) := rfl
@[simp] theorem asg_two (ρ : En) (i j : Nat) (a b : D) : asg ρ [i, j] (.tup [a, b]) = some ((ρ.set i (.v a)).set j (.v b)) := rfl
@[simp] theorem asg_three (ρ : En) (i j k : Nat) (a b c : D) : asg ρ [i, j, k] (.tup [a, b, c]) = some (((ρ.set i (.v a)).set j (.v b)).set k (.v c)) := rfl
@[simp] theorem wip_nil (ρ : En) : wipE ρ [] = ρ := rfl
@[simp] theorem wip_cons (ρ : En) (i : Nat) (is : List Nat) : wipE ρ (i :: is) = (wipE ρ is).set i .no := rfl
@[simp] theorem par_nil (ρ : En) : parS ρ [] [] [] = some ρ := rfl
@[simp] theorem par_v (ρ : En) (i : Nat) (is : List Nat) (os : List Bool) (d : D) (ds : List D) : parS ρ (i :: is) (false :: os) (d :: ds) = parS (ρ.set i (.v d)) is os ds := rfl
@[simp] theorem par_o (ρ : En) (i : Nat) (is : List Nat) (os : List Bool) (xs : List D) (ds : List D) : parS ρ (i :: is) (true :: os) (.lst xs :: ds) = parS (ρ.set i (.own xs)) is os ds := rfl
theorem compD_mapI {γ : Type} {f : D → Mst → R (Option D)} {h : γ → D} {g : γ → D} {M : Mst} {xs : List γ} (k : ∀ x ∈ xs, f (h x) M = .ok (some (g x)) M) : compD f (xs.map h) M = .ok (xs.map g) M := by
  induction xs with
  | nil => rfl
  | cons x xs ih =>
    have ih := ih fun y hy => k y (by simp [hy])
    rw [List.map_cons]
    unfold compD
    rw [k x (by simp)]
    simp only [bind_ok_, ih]
    rfl
theorem compD_filI {γ : Type} {f : D → Mst → R (Option D)} {h : γ → D} {p : γ → Bool} {g : γ → D} {M : Mst} {xs : List γ} (k : ∀ x ∈ xs, f (h x) M = .ok (if p x then some (g x) else none) M) : compD f (xs.map h) M = .ok ((xs.filter p).map g) M := by
  induction xs with
  | nil => rfl
  | cons x xs ih =>
    have ih := ih fun y hy => k y (by simp [hy])
    rw [List.map_cons]
    unfold compD
    rw [k x (by simp)]
    simp only [bind_ok_, ih]
    cases q : p x with
    | true => simp [q]
    | false => simp [q]
@[simp] theorem all_bls {γ : Type} (ys : List γ) (g : γ → Bool) : b1D .all (.lst (ys.map fun y => .bl (g y))) = some (.bl (ys.all g)) := by
  have e : truths (ys.map fun y => D.bl (g y)) = some (ys.map g) := by
    rw [show (ys.map fun y => D.bl (g y)) = (ys.map g).map .bl by rw [List.map_map]; rfl]
    exact truths_bls _
  simp only [b1D, items_lst, Option.bind_some, e, Option.map_some, List.all_map]
  rfl
@[simp] theorem any_bls {γ : Type} (ys : List γ) (g : γ → Bool) : b1D .any (.lst (ys.map fun y => .bl (g y))) = some (.bl (ys.any g)) := by
  have e : truths (ys.map fun y => D.bl (g y)) = some (ys.map g) := by
    rw [show (ys.map fun y => D.bl (g y)) = (ys.map g).map .bl by rw [List.map_map]; rfl]
    exact truths_bls _
  simp only [b1D, items_lst, Option.bind_some, e, Option.map_some, List.any_map]
  rfl
@[simp] theorem tup_of_lst (xs : List D) : b1D .tuple (.lst xs) = some (.tup xs) := rfl
@[simp] theorem tup_of_tup (xs : List D) : b1D .tuple (.tup xs) = some (.tup xs) := rfl
@[simp] theorem lst_of_lst (xs : List D) : b1D .list (.lst xs) = some (.lst xs) := rfl
@[simp] theorem lst_of_tup (xs : List D) : b1D .list (.tup xs) = some (.lst xs) := rfl
@[simp] theorem lst_of_row (xs : List Int) : b1D .list (row xs) = some (.lst (xs.map .int)) := rfl
@[simp] theorem tup_of_row (xs : List Int) : b1D .tuple (row xs) = some (row xs) := rfl
@[simp] theorem sorted_ints (xs : List Int) : b1D .sorted (.lst (xs.map .int)) = some (.lst ((sortI xs).map .int)) := by
  simp only [b1D, items_lst, Option.bind_some, sortD, ints_map]
@[simp] theorem sorted_intsF {γ : Type} (xs : List γ) (g : γ → Int) : b1D .sorted (.lst (xs.map fun y => .int (g y))) = some (.lst ((sortI (xs.map g)).map .int)) := by
  rw [show (xs.map fun y => D.int (g y)) = (xs.map g).map .int by rw [List.map_map]; rfl]
  exact sorted_ints _
@[simp] theorem sum_ints (xs : List Int) : b1D .sum (.lst (xs.map .int)) = some (.int xs.sum) := by
  simp only [b1D, items_lst, Option.bind_some, ints_map, Option.map_some]
@[simp] theorem sum_row (xs : List Int) : b1D .sum (row xs) = some (.int xs.sum) := by
  simp only [b1D, items_row, Option.bind_some, ints_map, Option.map_some]
@[simp] theorem len_lst (xs : List D) : b1D .len (.lst xs) = some (.int xs.length) := rfl
@[simp] theorem len_tup (xs : List D) : b1D .len (.tup xs) = some (.int xs.length) := rfl
@[simp] theorem len_row (xs : List Int) : b1D .len (row xs) = some (.int xs.length) := by
  show some (D.int (xs.map D.int).length) = _
  rw [List.length_map]
@[simp] theorem isi_row_tup (xs : List Int) : isiD .tuple (row xs) = some true := rfl
theorem sub_row {M : Mst} {xs : List Int} {i : Int} (h0 : 0 ≤ i) (h1 : i < xs.length) : subD M (row xs) (.int i) = some (.int (xs.getD i.toNat 0)) := by
  show L2.atI (xs.map D.int) i = _
  rw [atI_ok h0 (by rw [List.length_map]; exact h1), List.getElem?_map, List.getElem?_eq_getElem (by omega), List.getD_eq_getElem?_getD, List.getElem?_eq_getElem (by omega)]
  rfl
theorem sub_lstI {M : Mst} {xs : List Int} {i : Int} (h0 : 0 ≤ i) (h1 : i < xs.length) : subD M (.lst (xs.map .int)) (.int i) = some (.int (xs.getD i.toNat 0)) := by
  show L2.atI (xs.map D.int) i = _
  rw [atI_ok h0 (by rw [List.length_map]; exact h1), List.getElem?_map, List.getElem?_eq_getElem (by omega), List.getD_eq_getElem?_getD, List.getElem?_eq_getElem (by omega)]
  rfl
theorem cut_1 (xs : List D) : cutL xs (some 1) none = xs.drop 1 := by
  unfold cutL HT.sIx
  cases xs with
  | nil => rfl
  | cons x xs =>
    have e : min (1 : Int) (↑(xs.length) + 1) = 1 := by omega
    simp [e, List.take_of_length_le]
@[simp] theorem slc_row1 (xs : List Int) : slcD (row xs) (some 1) none = some (row (xs.drop 1)) := by
  show some (D.tup (cutL (xs.map D.int) (some 1) none)) = _
  rw [cut_1, ← List.map_drop]
  rfl
@[simp] theorem slc_lst1 (xs : List D) : slcD (.lst xs) (some 1) none = some (.lst (xs.drop 1)) := by
  show some (D.lst (cutL xs (some 1) none)) = _
  rw [cut_1]
@[simp] theorem add_ints (i j : Int) : binD .add (.int i) (.int j) = some (.int (i + j)) := rfl
@[simp] theorem sub_ints (i j : Int) : binD .sub (.int i) (.int j) = some (.int (i - j)) := rfl
theorem mod_ints {i j : Int} (h : 0 < j) : binD .mod (.int i) (.int j) = some (.int (i % j)) := by simp [binD, arI, h]
theorem fdiv_ints {i j : Int} (h : 0 < j) (h2 : j.natAbs.log2 < 9000) : binD .fdiv (.int i) (.int j) = some (.int (i / j)) := by simp [binD, arI, h, h2]
theorem log_small {j : Int} (h : j.natAbs < 2 ^ 64) : j.natAbs.log2 < 9000 := by
  by_cases z : j.natAbs = 0
  · rw [z]
    decide
  · have := (Nat.log2_lt z).mpr h
    omega
theorem fdiv_small {i j : Int} (h : 0 < j) (h2 : j < 2 ^ 64) : binD .fdiv (.int i) (.int j) = some (.int (i / j)) := fdiv_ints h (log_small (by omega))
theorem mul_small {i j : Int} (h : -(2 ^ 64) < i) (h2 : i < 2 ^ 64) : binD .mul (.int i) (.int j) = some (.int (i * j)) := by
  have : mulOk i j = true := by
    unfold mulOk
    rw [decide_eq_true ⟨h, h2⟩]
    rfl
  simp [binD, mulD, this]
theorem mul_small' {i j : Int} (h : -(2 ^ 64) < j) (h2 : j < 2 ^ 64) : binD .mul (.int i) (.int j) = some (.int (i * j)) := by
  have : mulOk i j = true := by
    unfold mulOk
    rw [decide_eq_true (p := -(2 ^ 64) < j ∧ j < 2 ^ 64) ⟨h, h2⟩, Bool.or_true]
    rfl
  simp [binD, mulD, this]
@[simp] theorem lt_ints (i j : Int) : cmpD .lt (.int i) (.int j) = some (decide (i < j)) := rfl
@[simp] theorem le_ints (i j : Int) : cmpD .le (.int i) (.int j) = some (decide (i ≤ j)) := rfl
@[simp] theorem gt_ints (i j : Int) : cmpD .gt (.int i) (.int j) = some (decide (j < i)) := rfl
@[simp] theorem ge_ints (i j : Int) : cmpD .ge (.int i) (.int j) = some (decide (j ≤ i)) := rfl
@[simp] theorem eq_ints (i j : Int) : cmpD .eq (.int i) (.int j) = some (decide (i = j)) := rfl
@[simp] theorem ne_ints (i j : Int) : cmpD .ne (.int i) (.int j) = some (!decide (i = j)) := rfl
theorem eq_of {x y : D} (hx : x.okd 64 = true) (hy : y.okd 64 = true) : cmpD .eq x y = some (eqb x y) := eqD_eqb hx hy
theorem ne_of {x y : D} (hx : x.okd 64 = true) (hy : y.okd 64 = true) : cmpD .ne x y = some (!eqb x y) := by
  show (eqD x y).map _ = _
  rw [eqD_eqb hx hy]
  rfl
@[simp] theorem intOf_int (i : Int) : intOf? (.int i) = some i := rfl
theorem add_lsts {xs ys : List D} (h : xs.length + ys.length ≤ line) : binD .add (.lst xs) (.lst ys) = some (.lst (xs ++ ys)) := by simp [binD, addD, h]
theorem rngOk_0 {n : Int} (h0 : 0 ≤ n) (h : n ≤ 16777216) : rngOk 0 n = true := by
  unfold rngOk line
  simp
  omega
theorem rngOk_2 {a b : Int} (h0 : 0 ≤ a) (h1 : a ≤ 16777216) (h2 : 0 ≤ b) (h : b ≤ 16777216) : rngOk a b = true := by
  unfold rngOk line
  simp
  omega
end Mi
end
section
set_option autoImplicit false
set_option linter.all false
set_option maxRecDepth 100000
namespace Gc
open PySem Mi
abbrev rgD (L r : Int) : D := .tup [.int L, .int r]
variable {M : Mst} {L r : Int} {xs : List Int}
/-- a ring -/
structure Ring (L r : Int) : Prop where
  L : 4 ≤ L ∧ L ≤ 24
  r : 1 ≤ r ∧ r ≤ 3
theorem is_whole_int (i lo hi : Int) : f_is_whole [.int i, .int lo, .int hi] M = .ok (.bl (decide (lo ≤ i) && decide (i ≤ hi))) M := by
  simp [f_is_whole, runDef, b_is_whole, isiD]
  by_cases h : lo ≤ i <;> simp [h]
@[simp] theorem sub_rg0 : subD M (rgD L r) (.int 0) = some (.int L) := rfl
@[simp] theorem sub_rg1 : subD M (rgD L r) (.int 1) = some (.int r) := rfl
theorem is_ring_ok (h : Ring L r) : f_is_ring [rgD L r] M = .ok (.bl true) M := by
  simp [f_is_ring, runDef, b_is_ring, isiD, tbl, T_is_ring, e_is_whole, is_whole_int, h.L, h.r]
theorem need_ring_ok (h : Ring L r) : f_need_ring [rgD L r] M = .ok .non M := by
  simp [f_need_ring, runDef, b_need_ring, tbl, T_need_ring, e_is_ring, is_ring_ok h]
theorem zip_lt {xs : List Int} (h : xs.Pairwise (· < ·)) : ∀ p ∈ xs.zip (xs.drop 1), p.1 < p.2 := by
  induction xs with
  | nil => intro p hp; cases hp
  | cons x xs ih =>
    rw [List.pairwise_cons] at h
    cases xs with
    | nil => intro p hp; simp at hp
    | cons y ys =>
      intro p hp
      simp only [List.drop_succ_cons, List.drop_zero, List.zip_cons_cons, List.mem_cons] at hp
      rcases hp with rfl | hp
      · exact h.1 y (by simp)
      · exact ih h.2 p (by simpa using hp)
theorem is_good_row_ok (R : Gm.Row L xs) : f_is_good_row [rgD L r, row xs] M = .ok (.bl true) M := by
  have h1 : cmpD .eq (row xs) (.tup []) = some false := by
    rw [eq_of (okd_row xs (by decide)) rfl, show D.tup [] = row [] from rfl, eqb_row]
    simp [R.ne]
  have h2 : (xs.all fun i => decide (0 ≤ i) && decide (i ≤ L - 1)) = true := by
    rw [List.all_eq_true]
    intro i hi
    have := R.lo i hi
    simp
    omega
  simp [f_is_good_row, runDef, b_is_good_row, h1]
  rw [compD_mapI (g := fun i => .bl (decide (0 ≤ i) && decide (i ≤ L - 1)))]
  · simp only [bind_ok_, all_bls, of_some_, h2]
    simp [-List.drop_one, -List.map_drop]
    rw [zipD_ints, compD_mapI (g := fun p => .bl (decide (p.1 < p.2)))]
    · simp only [bind_ok_, all_bls, of_some_]
      simp
      have := zip_lt R.lt
      intro a b h
      exact this (a, b) (by simpa using h)
    · intro p hp
      simp
  · intro i hi
    simp [tbl, T_is_good_row, e_is_whole, is_whole_int]
theorem need_row_ok (h : Ring L r) (R : Gm.Row L xs) : f_need_row [rgD L r, row xs] M = .ok .non M := by
  simp [f_need_row, runDef, b_need_row, tbl, T_need_row, e_is_good_row, e_need_ring, is_good_row_ok R, need_ring_ok h]
open Gm (nextsP gapsP movedP nextP)
theorem all_gaps_ok (h : xs ≠ []) (hl : xs.length ≤ 1000) : f_all_gaps [rgD L r, row xs] M = .ok (row (gapsP L xs)) M := by
  have hp := List.length_pos_iff.mpr h
  have h1 : subD M (row xs) (.int 0) = some (.int (xs.getD 0 0)) := sub_row (by omega) (by omega)
  have h2 : binD .add (.lst ((xs.drop 1).map .int)) (.lst [.int (xs.getD 0 0 + L)]) = some (.lst ((nextsP L xs).map .int)) := by
    rw [add_lsts (by simp [line]; omega)]
    simp [nextsP]
  simp [-List.drop_one, -List.map_drop, -List.getD_eq_getElem?_getD, f_all_gaps, runDef, b_all_gaps, h1, h2]
  rw [zipD_ints, compD_mapI (g := fun p => .int (p.2 - p.1 - 1))]
  · simp [gapsP, row]
  · intro p hp
    simp
theorem goings_ok (h : xs ≠ []) (hl : xs.length ≤ 1000) : f_goings [rgD L r, row xs] M = .ok (row ((gapsP L xs).map (min r))) M := by
  simp [f_goings, runDef, b_goings, tbl, T_goings, e_all_gaps, all_gaps_ok h hl]
  rw [compD_mapI (g := fun g => .int (min r g))]
  · simp [row]
  · intro g hg
    simp [b2D]
    split <;> omega
theorem srt_same (xs : List Int) : sortI xs = Gm.srt xs := rfl
theorem moved_ok (hL : 0 < L) {ys : List Int} : f_moved [rgD L r, row xs, row ys] M = .ok (row (movedP L xs ys)) M := by
  simp [f_moved, runDef, b_moved]
  rw [zipD_ints, compD_mapI (g := fun p => .int ((p.1 + p.2) % L))]
  · simp [movedP, srt_same, row]
  · intro g hg
    simp [mod_ints hL]
theorem next_row_ok (hL : 0 < L) (h : xs ≠ []) (hl : xs.length ≤ 1000) : f_next_row [rgD L r, row xs] M = .ok (row (nextP L r xs)) M := by
  simp [f_next_row, runDef, b_next_row, tbl, T_next_row, e_moved, e_goings, goings_ok h hl, moved_ok hL, nextP]
/-! min, max of ints -/
theorem foldl_min : ∀ (xs : List Int) (a : Int), (xs.foldl min a = a ∨ xs.foldl min a ∈ xs) ∧ xs.foldl min a ≤ a ∧ ∀ x ∈ xs, xs.foldl min a ≤ x
  | [], a => ⟨.inl rfl, Int.le_refl _, fun x h => by cases h⟩
  | x :: xs, a => by
    obtain ⟨h1, h2, h3⟩ := foldl_min xs (min a x)
    rw [List.foldl_cons]
    refine ⟨?_, by omega, fun y hy => ?_⟩
    · rcases h1 with h1 | h1
      · by_cases q : a ≤ x
        · exact .inl (by omega)
        · exact .inr (by rw [h1, show min a x = x by omega]; simp)
      · exact .inr (List.mem_cons_of_mem _ h1)
    · rcases List.mem_cons.mp hy with rfl | hy
      · omega
      · exact h3 y hy
theorem foldl_max : ∀ (xs : List Int) (a : Int), (xs.foldl max a = a ∨ xs.foldl max a ∈ xs) ∧ a ≤ xs.foldl max a ∧ ∀ x ∈ xs, x ≤ xs.foldl max a
  | [], a => ⟨.inl rfl, Int.le_refl _, fun x h => by cases h⟩
  | x :: xs, a => by
    obtain ⟨h1, h2, h3⟩ := foldl_max xs (max a x)
    rw [List.foldl_cons]
    refine ⟨?_, by omega, fun y hy => ?_⟩
    · rcases h1 with h1 | h1
      · by_cases q : x ≤ a
        · exact .inl (by omega)
        · exact .inr (by rw [h1, show max a x = x by omega]; simp)
      · exact .inr (List.mem_cons_of_mem _ h1)
    · rcases List.mem_cons.mp hy with rfl | hy
      · omega
      · exact h3 y hy
theorem minD_ints {xs : List Int} (h : xs ≠ []) : ∃ m, minD (xs.map .int) = some (.int m) ∧ m ∈ xs ∧ ∀ x ∈ xs, m ≤ x := by
  cases xs with
  | nil => exact absurd rfl h
  | cons x xs =>
    obtain ⟨h1, h2, h3⟩ := foldl_min xs x
    refine ⟨xs.foldl min x, by unfold minD; rw [ints_map], ?_, fun y hy => ?_⟩
    · rcases h1 with h1 | h1
      · rw [h1]; simp
      · exact List.mem_cons_of_mem _ h1
    · rcases List.mem_cons.mp hy with rfl | hy
      · exact h2
      · exact h3 y hy
theorem maxD_ints {xs : List Int} (h : xs ≠ []) : ∃ m, maxD (xs.map .int) = some (.int m) ∧ m ∈ xs ∧ ∀ x ∈ xs, x ≤ m := by
  cases xs with
  | nil => exact absurd rfl h
  | cons x xs =>
    obtain ⟨h1, h2, h3⟩ := foldl_max xs x
    refine ⟨xs.foldl max x, by unfold maxD; rw [ints_map], ?_, fun y hy => ?_⟩
    · rcases h1 with h1 | h1
      · rw [h1]; simp
      · exact List.mem_cons_of_mem _ h1
    · rcases List.mem_cons.mp hy with rfl | hy
      · exact h2
      · exact h3 y hy
theorem gaps_ne (h : xs ≠ []) : gapsP L xs ≠ [] := by
  intro e
  have := congrArg List.length e
  rw [Gm.gaps_range h, List.length_map, List.length_range] at this
  exact h (List.length_eq_zero_iff.mp this)
theorem does_run_ok (h : xs ≠ []) (hl : xs.length ≤ 1000) : f_does_run [rgD L r, row xs] M = .ok (.bl (decide (∀ g ∈ gapsP L xs, r ≤ g))) M := by
  obtain ⟨m, e, h1, h2⟩ := minD_ints (gaps_ne (L := L) h)
  have e2 : b1D .min (row (gapsP L xs)) = some (.int m) := e
  simp [f_does_run, runDef, b_does_run, tbl, T_does_run, e_all_gaps, all_gaps_ok h hl, e2]
  constructor
  · intro q g hg
    have := h2 g hg
    omega
  · intro q
    exact q m h1
theorem does_back_ok (h : xs ≠ []) (hl : xs.length ≤ 1000) : f_does_back [rgD L r, row xs] M = .ok (.bl (decide (∀ g ∈ gapsP L xs, g ≤ r))) M := by
  obtain ⟨m, e, h1, h2⟩ := maxD_ints (gaps_ne (L := L) h)
  have e2 : b1D .max (row (gapsP L xs)) = some (.int m) := e
  simp [f_does_back, runDef, b_does_back, tbl, T_does_back, e_all_gaps, all_gaps_ok h hl, e2]
  constructor
  · intro q g hg
    have := h2 g hg
    omega
  · intro q
    exact q m h1
end Gc
end
section
set_option autoImplicit false
set_option linter.all false
set_option maxRecDepth 100000
namespace Gc
open PySem Mi
open Gm (nextsP gapsP movedP nextP rowT Runs Backs xx ext)
variable {M : Mst} {L r : Int} {xs : List Int}
/-- a row that the texts take: its ring, few carts -/
structure RR (L r : Int) (xs : List Int) : Prop where
  ring : Ring L r
  good : Gm.Row L xs
theorem RR.r0 (h : RR L r xs) : 0 ≤ r := by have := h.ring.r; omega
theorem RR.L0 (h : RR L r xs) : 0 < L := by have := h.ring.L; omega
theorem RR.ne (h : RR L r xs) : xs ≠ [] := h.good.ne
theorem RR.rg (h : RR L r xs) : Gm.Rg L r xs.length (ext L xs) := h.good.rg h.r0
theorem RR.at_ (h : RR L r xs) (t : Nat) : RR L r (rowT L r xs t) := ⟨h.ring, Gm.rowT_row h.good h.r0 t⟩
theorem RR.n0 (h : RR L r xs) : 0 < xs.length := h.rg.n0
/-- no more carts than cells -/
theorem row_few {L : Int} {xs : List Int} (R : Gm.Row L xs) (hL : 0 ≤ L) : (xs.length : Int) ≤ L := by
  have key : ∀ (ys : List Int) (a : Int), ys.Pairwise (· < ·) → (∀ y ∈ ys, a ≤ y ∧ y < L) → (ys.length : Int) ≤ L - a ∨ ys = [] := by
    intro ys
    induction ys with
    | nil => intro a _ _; exact .inr rfl
    | cons y ys ih =>
      intro a h1 h2
      rw [List.pairwise_cons] at h1
      have hy := h2 y (by simp)
      rcases ih (y + 1) h1.2 (fun z hz => ⟨h1.1 z hz, (h2 z (by simp [hz])).2⟩) with h | h
      · left
        rw [List.length_cons]
        omega
      · left
        subst h
        simp
        omega
  rcases key xs 0 R.lt R.lo with h | h
  · omega
  · rw [h]
    simpa using hL
theorem RR.len (h : RR L r xs) : (xs.length : Int) ≤ L := row_few h.good (by have := h.L0; omega)
theorem RR.few24 (h : RR L r xs) : xs.length ≤ 24 := by have := h.len; have := h.ring.L; omega
theorem RR.few (h : RR L r xs) : xs.length ≤ 1000 := by have := h.few24; omega
def runB (L r : Int) (xs : List Int) (t : Nat) : Bool := decide (∀ g ∈ gapsP L (rowT L r xs t), r ≤ g)
def backB (L r : Int) (xs : List Int) (t : Nat) : Bool := decide (∀ g ∈ gapsP L (rowT L r xs t), g ≤ r)
theorem runB_iff (h : RR L r xs) (t : Nat) : runB L r xs t = true ↔ Runs r (xx r (ext L xs) t) := by
  unfold runB
  rw [decide_eq_true_eq]
  exact Gm.runs_gaps (Gm.xx_rg h.rg t)
theorem backB_iff (h : RR L r xs) (t : Nat) : backB L r xs t = true ↔ Backs r (xx r (ext L xs) t) := by
  unfold backB
  rw [decide_eq_true_eq]
  exact Gm.backs_gaps (Gm.xx_rg h.rg t)
theorem run_at (h : RR L r xs) (t : Nat) : f_does_run [rgD L r, row (rowT L r xs t)] M = .ok (.bl (runB L r xs t)) M := does_run_ok (h.at_ t).ne (h.at_ t).few
theorem back_at (h : RR L r xs) (t : Nat) : f_does_back [rgD L r, row (rowT L r xs t)] M = .ok (.bl (backB L r xs t)) M := does_back_ok (h.at_ t).ne (h.at_ t).few
theorem next_at (h : RR L r xs) (t : Nat) : f_next_row [rgD L r, row (rowT L r xs t)] M = .ok (row (rowT L r xs (t + 1))) M := by
  rw [next_row_ok h.L0 (h.at_ t).ne (h.at_ t).few, Gm.rowT_next h.good h.r0]
/-- the moment at which it settles -/
structure SetAt (L r : Int) (xs : List Int) (s : Nat) : Prop where
  lt : s < xs.length
  at_ : runB L r xs s = true ∨ backB L r xs s = true
  no : ∀ t, t < s → runB L r xs t = false ∧ backB L r xs t = false
theorem RR.set (h : RR L r xs) : ∃ s, SetAt L r xs s := by
  obtain ⟨s, h1, h2, h3⟩ := Gm.settles_at h.rg
  refine ⟨s, h1, ?_, fun t ht => ?_⟩
  · rw [runB_iff h, backB_iff h]
    exact h2
  · have := h3 t ht
    rw [← runB_iff h, ← backB_iff h] at this
    simpa using this
def wordP (L r : Int) (xs : List Int) (s : Nat) : Str := if runB L r xs s then "runs" else "backs"
theorem settled_ok (h : RR L r xs) {s : Nat} (hs : SetAt L r xs s) : f_settled [rgD L r, row xs] M = .ok (.tup [.int (s : Nat), .str (wordP L r xs s), row (rowT L r xs s)]) M := by
  have few := h.few
  have hlt := hs.lt
  simp [f_settled, runDef, b_settled]
  rw [show ([Slot.v (rgD L r), .v (row xs), .v (.int 0)] : En) = (fun t : Nat => [Slot.v (rgD L r), .v (row (rowT L r xs t)), .v (.int (t : Nat))]) 0 by simp [Gm.rowT_zero h.good]]
  rw [whileD_run (fun t : Nat => [Slot.v (rgD L r), .v (row (rowT L r xs t)), .v (.int (t : Nat))]) s ?ht ?hs ?he 0 1000000 (Nat.zero_le _) (by omega)]
  · simp [tbl, T_settled, e_does_run, e_does_back, e_next_row, run_at h]
    unfold wordP
    cases runB L r xs s <;> simp
  case ht =>
    intro i hi
    obtain ⟨q1, q2⟩ := hs.no i hi
    simp [tbl, T_settled, e_does_run, e_does_back, e_next_row, run_at h, back_at h, q1, q2]
  case hs =>
    intro i hi
    simp [tbl, T_settled, e_does_run, e_does_back, e_next_row, next_at h]
  case he =>
    have := hs.at_
    simp [tbl, T_settled, e_does_run, e_does_back, e_next_row, run_at h, back_at h]
    cases q : runB L r xs s with
    | true => simp
    | false =>
      rw [q] at this
      simp at this
      simp [this]
end Gc
end
section
set_option autoImplicit false
set_option linter.all false
set_option maxRecDepth 100000
namespace Gc
open PySem Mi
open Gm (nextsP gapsP movedP nextP rowT Runs Backs xx ext bb wm)
variable {M : Mst} {L r : Int} {xs : List Int}
theorem moment_K {K T : Int} (h : 0 ≤ T ∧ T ≤ K) : runDef (tbl T_need_moment) 1 [.cond (.not (.call 1 (.cons (.var 0) (.cons (.int 0) (.cons (.gl "FARTHEST" (.int K)) .nil))))) [.rai 2] []] [.int T] M = .ok .non M := by
  simp [runDef, tbl, T_need_moment, e_is_whole, is_whole_int, h]
theorem need_moment_ok {T : Int} (h : 0 ≤ T ∧ T ≤ 1000000000000000000) : f_need_moment [.int T] M = .ok .non M := moment_K h
theorem sub_nat {j : Nat} (h : j < xs.length) : subD M (row xs) (.int (j : Nat)) = some (.int (xs.getD j 0)) := sub_row (by omega) (by omega)
theorem ahead_of_ok (h : RR L r xs) {c k : Nat} (hc : c < xs.length) : f_ahead_of [rgD L r, row xs, .int (c : Nat), .int (k : Nat)] M = .ok (.int (ext L xs (c + k) - ext L xs c)) M := by
  have hn := h.n0
  have hL := h.ring.L
  have e1 : binD .fdiv (.int ((c : Int) + (k : Int))) (.int xs.length) = some (.int (((c + k) / xs.length : Nat) : Int)) := by
    rw [fdiv_small (by omega) (by have := h.few; omega), ← Int.natCast_add, ← Int.natCast_ediv]
  have e2 : binD .mod (.int ((c : Int) + (k : Int))) (.int xs.length) = some (.int (((c + k) % xs.length : Nat) : Int)) := by
    rw [mod_ints (by omega), ← Int.natCast_add, ← Int.natCast_emod]
  have e3 := sub_nat (M := M) (xs := xs) hc
  have e4 := sub_nat (M := M) (xs := xs) (Nat.mod_lt (c + k) hn)
  have e5 : binD .mul (.int (((c + k) / xs.length : Nat) : Int)) (.int L) = some (.int ((((c + k) / xs.length : Nat) : Int) * L)) := mul_small' (by omega) (by omega)
  simp only [f_ahead_of, runDef, b_ahead_of]
  simp -implicitDefEqProofs [-Int.natCast_ediv, -Int.natCast_emod, -List.getD_eq_getElem?_getD, e1, e2, e3, e4, e5]
  rw [Gm.ext_lt hc]
  unfold ext
  rw [Int.mul_comm]
  omega
/-- which carts are asked -/
def askP (L r : Int) (n T : Nat) : List Nat := if T < 2 * n then List.range (T + 1) else if (n : Int) * (r + 1) ≤ L then List.range n else (List.range n).map fun i => T + 1 - n + i
theorem rngI_nat {n : Nat} : rngI 0 (n : Nat) = (List.range n).map fun i => D.int (i : Nat) := by
  unfold rngI
  simp
theorem rngOk_far {a b : Int} (h0 : 0 ≤ a) (h1 : a ≤ 2000000000000000000) (h2 : a ≤ b) (h3 : b ≤ a + 16777216) : rngOk a b = true := by
  unfold rngOk line
  simp
  omega
theorem asked_ok (h : RR L r xs) {T : Nat} (hT : (T : Int) ≤ 1000000000000000000) : f_asked [rgD L r, row xs, .int (T : Nat)] M = .ok (.lst ((askP L r xs.length T).map fun k => .int (k : Nat))) M := by
  have hn := h.n0
  have few := h.few24
  have hr := h.ring.r
  have e1 : binD .mul (.int 2) (.int (xs.length : Nat)) = some (.int (2 * (xs.length : Nat))) := mul_small (by omega) (by omega)
  have e2 : binD .mul (.int (xs.length : Nat)) (.int (r + 1)) = some (.int ((xs.length : Nat) * (r + 1))) := mul_small (by omega) (by omega)
  simp -implicitDefEqProofs [f_asked, runDef, b_asked, e1, e2]
  unfold askP
  by_cases c1 : T < 2 * xs.length
  · have c1' : (T : Int) < 2 * (xs.length : Int) := by omega
    have e3 : rngOk 0 ((T : Int) + 1) = true := rngOk_0 (by omega) (by omega)
    have e5 : rngI 0 ((T : Int) + 1) = (List.range (T + 1)).map fun i => D.int (i : Nat) := rngI_nat (n := T + 1)
    rw [if_pos c1', if_pos c1, e3]
    simp -implicitDefEqProofs [e5]
  · have c1' : ¬ (T : Int) < 2 * (xs.length : Int) := by omega
    rw [if_neg c1', if_neg c1]
    by_cases c2 : (xs.length : Int) * (r + 1) ≤ L
    · have e3 : rngOk 0 (xs.length : Int) = true := rngOk_0 (by omega) (by omega)
      simp -implicitDefEqProofs [e2, c2, e3, rngI_nat]
    · have e3 : rngOk ((T : Int) - xs.length + 1) ((T : Int) + 1) = true := rngOk_far (by omega) (by omega) (by omega) (by omega)
      have e4 : ((T : Int) + 1 - (T - (xs.length : Int) + 1)).toNat = xs.length := by omega
      have e5 : rngI ((T : Int) - (xs.length : Int) + 1) (T + 1) = (List.range xs.length).map fun i => D.int ((T + 1 - xs.length + i : Nat) : Int) := by
        unfold rngI
        rw [e4]
        refine List.map_congr_left fun i hi => ?_
        have := List.mem_range.mp hi
        have e6 : (0 : Int) ≤ i := by omega
        rw [show ((T : Int) - (xs.length : Int) + 1 + i) = ((T + 1 - xs.length + i : Nat) : Int) by omega]
      simp -implicitDefEqProofs [e2, c2, e3, e5]
def valP (L r : Int) (xs : List Int) (T c k : Nat) : Int := ext L xs (c + k) - ext L xs c + r * ((T : Int) - (k : Int)) - (k : Int)
theorem rows_pairs {γ : Type} (ks : List γ) (f g : γ → Int) : rows? (ks.map fun k => D.tup [.int (f k), .int (g k)]) = some (ks.map fun k => [f k, g k]) := by
  induction ks with
  | nil => rfl
  | cons k ks ih => simp [rows?, ints?, ih]
theorem ints_pairs {γ : Type} {ks : List γ} (h : ks ≠ []) (f : γ → List D) : ints? (ks.map fun k => D.tup (f k)) = none := by
  cases ks with
  | nil => exact absurd rfl h
  | cons k ks => rfl
theorem lex2 (a b c d : Int) : HT.lexLt [a, b] [c, d] = (decide (a < c) || (decide (a = c) && decide (b < d))) := by
  simp only [HT.lexLt]
  by_cases h : a = c
  · subst h
    by_cases h2 : b = d
    · subst h2
      simp
    · simp [h2]
  · rw [if_neg h]
    simp [h]
theorem fold_lexmin {γ : Type} (f g : γ → Int) : ∀ (ks : List γ) (k : γ), ∃ z, z ∈ k :: ks ∧ (ks.map fun k => [f k, g k]).foldl (fun a b => if HT.lexLt b a then b else a) [f k, g k] = [f z, g z] ∧ ∀ y ∈ k :: ks, f z ≤ f y
  | [], k => ⟨k, by simp, rfl, fun y hy => by
    rw [List.mem_singleton.mp hy]
    exact Int.le_refl _⟩
  | j :: ks, k => by
    rw [List.map_cons, List.foldl_cons, lex2]
    by_cases q : (decide (f j < f k) || (decide (f j = f k) && decide (g j < g k))) = true
    · rw [if_pos q]
      obtain ⟨z, h1, h2, h3⟩ := fold_lexmin f g ks j
      refine ⟨z, List.mem_cons_of_mem _ h1, h2, fun y hy => ?_⟩
      rcases List.mem_cons.mp hy with rfl | hy
      · have := h3 j (by simp)
        simp at q
        omega
      · exact h3 y hy
    · rw [if_neg q]
      obtain ⟨z, h1, h2, h3⟩ := fold_lexmin f g ks k
      refine ⟨z, ?_, h2, fun y hy => ?_⟩
      · rcases List.mem_cons.mp h1 with rfl | h1
        · simp
        · simp [h1]
      · rcases List.mem_cons.mp hy with rfl | hy
        · exact h3 y (by simp)
        · rcases List.mem_cons.mp hy with rfl | hy
          · have := h3 k (by simp)
            simp at q
            omega
          · exact h3 y (by simp [hy])
theorem min_pairs {γ : Type} {ks : List γ} (h : ks ≠ []) (f g : γ → Int) : ∃ z, z ∈ ks ∧ b1D .min (.lst (ks.map fun k => D.tup [.int (f k), .int (g k)])) = some (.tup [.int (f z), .int (g z)]) ∧ ∀ y ∈ ks, f z ≤ f y := by
  cases ks with
  | nil => exact absurd rfl h
  | cons k ks =>
    obtain ⟨z, h1, h2, h3⟩ := fold_lexmin f g ks k
    refine ⟨z, h1, ?_, h3⟩
    have e1 := ints_pairs (ks := k :: ks) h fun k => [.int (f k), .int (g k)]
    have e2 := rows_pairs (k :: ks) f g
    have e0 : b1D .min (.lst ((k :: ks).map fun k => D.tup [.int (f k), .int (g k)])) = minD ((k :: ks).map fun k => D.tup [.int (f k), .int (g k)]) := rfl
    rw [e0]
    unfold minD
    rw [e1, e2]
    simp only [List.map_cons]
    rw [h2]
    rfl
theorem ask_ne (h : RR L r xs) (T : Nat) : askP L r xs.length T ≠ [] := by
  have hn := h.n0
  intro e
  have e2 := congrArg List.length e
  unfold askP at e2
  by_cases c1 : T < 2 * xs.length
  · rw [if_pos c1, List.length_range] at e2
    cases e2
  · rw [if_neg c1] at e2
    by_cases c2 : (xs.length : Int) * (r + 1) ≤ L
    · rw [if_pos c2, List.length_range] at e2
      rw [List.length_nil] at e2
      omega
    · rw [if_neg c2, List.length_map, List.length_range, List.length_nil] at e2
      omega
theorem ask_le (h : RR L r xs) {T k : Nat} (hk : k ∈ askP L r xs.length T) : k ≤ T := by
  have := h.n0
  unfold askP at hk
  split at hk
  · have := List.mem_range.mp hk
    omega
  · split at hk
    · have := List.mem_range.mp hk
      omega
    · obtain ⟨i, hi, rfl⟩ := List.mem_map.mp hk
      have := List.mem_range.mp hi
      omega
theorem ask_has (h : RR L r xs) (T c : Nat) : ∃ k, k ∈ askP L r xs.length T ∧ bb r (ext L xs) (c + k) = wm (bb r (ext L xs)) c T := by
  have hn := h.n0
  unfold askP
  by_cases c1 : T < 2 * xs.length
  · rw [if_pos c1]
    obtain ⟨i, h1, h2, h3⟩ := Gm.wm_at (b := bb r (ext L xs)) T c
    exact ⟨i - c, List.mem_range.mpr (by omega), by rw [show c + (i - c) = i by omega, h3]⟩
  · rw [if_neg c1]
    by_cases c2 : (xs.length : Int) * (r + 1) ≤ L
    · rw [if_pos c2]
      obtain ⟨k, h1, h2, h3⟩ := Gm.ask_room h.rg (by rw [Int.mul_comm]; exact c2) (T := T) (j := c)
      exact ⟨k, List.mem_range.mpr h1, h3⟩
    · rw [if_neg c2]
      obtain ⟨k, h1, h2, h3⟩ := Gm.ask_tight h.rg (by rw [Int.mul_comm]; omega) (T := T) (j := c)
      exact ⟨k, List.mem_map.mpr ⟨k + xs.length - T - 1, List.mem_range.mpr (by omega), by omega⟩, h3⟩
theorem val_eq {T c k : Nat} (hk : k ≤ T) : valP L r xs T c k = r * (T : Int) + (r + 1) * (c : Int) + bb r (ext L xs) (c + k) - ext L xs c := by
  have := Gm.term_eq (r := r) (a := ext L xs) (T := T) (j := c) hk
  unfold valP
  omega
theorem forD_out {f : D → En → Mst → SR} {ds : List D} {ρ : En} {M : Mst} {Z : SR} (hz : forD f ds ρ M = Z) (P : Nat → En → Mst → Prop) (h0 : P 0 ρ M) (hs : ∀ (j : Nat) (x : D) (ρ : En) (M : Mst), ds[j]? = some x → P j ρ M → ∃ ρ' M', f x ρ M = .nx ρ' M' ∧ P (j + 1) ρ' M') : ∃ ρ' M', Z = .nx ρ' M' ∧ P ds.length ρ' M' := by
  obtain ⟨ρ', M', e, h⟩ := forD_inv (f := f) P (xs := ds) (i := 0) h0 fun j x ρ M ex h => by
    rw [Nat.zero_add] at h ⊢
    exact hs j x ρ M ex h
  rw [Nat.zero_add] at h
  exact ⟨ρ', M', hz ▸ e, h⟩
theorem take_more {γ δ : Type} {ks : List γ} {g : γ → δ} {j : Nat} {k : γ} (h : ks[j]? = some k) : (ks.map g).take (j + 1) = (ks.map g).take j ++ [g k] := by
  rw [List.take_add_one, List.getElem?_map, h]
  rfl
theorem take_len {γ δ : Type} {ks : List γ} {g : γ → δ} {j : Nat} {k : γ} (h : ks[j]? = some k) : ((ks.map g).take j).length < ks.length := by
  have := (List.getElem?_eq_some_iff.mp h).1
  rw [List.length_take, List.length_map]
  omega
theorem ask_len (h : RR L r xs) (T : Nat) : (askP L r xs.length T).length ≤ 48 := by
  have := h.few24
  unfold askP
  split
  · rw [List.length_range]
    omega
  · split
    · rw [List.length_range]
      omega
    · rw [List.length_map, List.length_range]
      omega
theorem least_at_ok (h : RR L r xs) {c T : Nat} (hc : c < xs.length) (hT : (T : Int) ≤ 1000000000000000000) : ∃ k : Nat, f_least_at [rgD L r, row xs, .int (c : Nat), .int (T : Nat)] M = .ok (.tup [.int (xx r (ext L xs) T c - ext L xs c), .int (k : Nat)]) M := by
  have hr := h.ring.r
  obtain ⟨z, h1, h2, h3⟩ := min_pairs (ask_ne h T) (valP L r xs T c) fun k => (k : Int)
  have hv : valP L r xs T c z = xx r (ext L xs) T c - ext L xs c := by
    obtain ⟨k, k1, k2⟩ := ask_has h T c
    have k3 := h3 k k1
    rw [val_eq (ask_le h h1), val_eq (ask_le h k1), k2] at k3
    have k4 := Gm.wm_le (b := bb r (ext L xs)) (t := T) (j := c) (i := c + z) (by omega) (by have := ask_le h h1; omega)
    rw [val_eq (ask_le h h1)]
    unfold xx
    omega
  refine ⟨z, ?_⟩
  simp -implicitDefEqProofs [f_least_at, runDef, b_least_at]
  rw [asked_ok h hT]
  simp -implicitDefEqProofs
  generalize hz : forD _ _ _ _ = Z
  obtain ⟨ρ', M', rfl, hM, s5, e5⟩ := forD_out hz (fun j ρ M' => M' = M ∧ ∃ s5, ρ = [.v (rgD L r), .v (row xs), .v (.int (c : Nat)), .v (.int (T : Nat)), .own (((askP L r xs.length T).map fun k => D.tup [.int (valP L r xs T c k), .int (k : Nat)]).take j), s5]) ⟨rfl, .no, rfl⟩ (by
    rintro j x ρ M' ex ⟨rfl, s5, rfl⟩
    rw [List.getElem?_map] at ex
    obtain ⟨k, ek, rfl⟩ := Option.map_eq_some_iff.mp ex
    have l1 := ask_len h T
    have l2 := take_len (g := fun k : Nat => D.tup [.int (valP L r xs T c k), .int (k : Nat)]) ek
    have l3 : ((((askP L r xs.length T).map fun k : Nat => D.tup [.int (valP L r xs T c k), .int (k : Nat)]).take j).length < line) := by
      unfold line
      omega
    have t1 : f_ahead_of [rgD L r, row xs, D.int (c : Nat), D.int (k : Nat)] M' = .ok (.int (ext L xs (c + k) - ext L xs c)) M' := ahead_of_ok h hc
    have t2 : binD .mul (.int r) (.int ((T : Int) - (k : Int))) = some (.int (r * ((T : Int) - (k : Int)))) := mul_small (by omega) (by omega)
    have t3 := take_more (g := fun k : Nat => D.tup [.int (valP L r xs T c k), .int (k : Nat)]) ek
    generalize (((askP L r xs.length T).map fun k : Nat => D.tup [.int (valP L r xs T c k), .int (k : Nat)]).take j) = Q at l3 t3 ⊢
    rw [t3]
    refine ⟨[.v (rgD L r), .v (row xs), .v (.int (c : Nat)), .v (.int (T : Nat)), .own (Q ++ [D.tup [.int (valP L r xs T c k), .int (k : Nat)]]), .v (.int (k : Nat))], M', ?_, rfl, _, rfl⟩
    simp -implicitDefEqProofs [t1, t2, l3, valP])
  subst hM e5
  rw [List.length_map, ← List.length_map (as := askP L r xs.length T) (f := fun k : Nat => D.tup [.int (valP L r xs T c k), .int (k : Nat)]), List.take_length]
  simp -implicitDefEqProofs [h2]
  exact hv
end Gc
end
section
set_option autoImplicit false
set_option linter.all false
set_option maxRecDepth 100000
namespace Gc
open PySem Mi
open Gm (nextsP gapsP movedP nextP rowT Runs Backs xx ext bb wm rowOf Row)
variable {M : Mst} {L r : Int} {xs : List Int}
def goneP (L r : Int) (xs : List Int) (T : Nat) : List Int := (List.range xs.length).map fun j => xx r (ext L xs) T j - ext L xs j
theorem gone_len {T : Nat} : (goneP L r xs T).length = xs.length := by simp [goneP]
def finD (x : SR) : R D := match x with
  | .nx _ M => .ok .non M
  | .rt d M => .ok d M
  | .exc c M => .exc c M
  | _ => .stuck
@[simp] theorem finD_nx (ρ : En) (M : Mst) : finD (.nx ρ M) = .ok .non M := rfl
@[simp] theorem finD_rt (d : D) (M : Mst) : finD (.rt d M) = .ok d M := rfl
theorem run_eq (Φ : Fs) (n : Nat) (b : List MS) (ds : List D) (M : Mst) : runDef Φ n b ds M = finD (MS.dens Φ b (ds.map .v ++ List.replicate (n - ds.length) .no) M) := rfl
theorem all_gone_ok (h : RR L r xs) {T : Nat} (hT : (T : Int) ≤ 1000000000000000000) : f_all_gone [rgD L r, row xs, .int (T : Nat)] M = .ok (row (goneP L r xs T)) M := by
  have few := h.few24
  have e3 : rngOk 0 (xs.length : Int) = true := rngOk_0 (by omega) (by omega)
  show runDef (tbl T_all_gone) 4 b_all_gone _ M = _
  rw [run_eq]
  simp -implicitDefEqProofs [b_all_gone, e3, rngI_nat]
  rw [compD_mapI (g := fun j : Nat => .int (xx r (ext L xs) T j - ext L xs j))]
  · simp -implicitDefEqProofs [goneP, row]
  · intro j hj
    obtain ⟨k, hk⟩ := least_at_ok (M := M) h (List.mem_range.mp hj) hT
    have e : tbl T_all_gone 14 [rgD L r, row xs, D.int (j : Nat), D.int (T : Nat)] M = f_least_at [rgD L r, row xs, D.int (j : Nat), D.int (T : Nat)] M := rfl
    simp -implicitDefEqProofs [e, hk]
theorem moved_gone (h : RR L r xs) (T : Nat) : movedP L xs (goneP L r xs T) = rowT L r xs T := by
  unfold goneP
  rw [Gm.moved_range]
  unfold rowT
  congr 1
  funext j
  omega
structure RoundAt (L r : Int) (xs : List Int) (s l : Nat) : Prop where
  set : SetAt L r xs s
  pos : 0 < l
  le : (l : Int) ≤ L
  back : rowT L r xs (s + l) = rowT L r xs s
  no : ∀ i, 0 < i → i < l → rowT L r xs (s + i) ≠ rowT L r xs s
theorem rowT_add (s m : Nat) : rowT L r xs (s + m) = rowOf L xs.length (xx r (xx r (ext L xs) s) m) := by
  unfold rowT
  congr 1
  funext j
  exact Gm.xx_add s m j
theorem RR.round (h : RR L r xs) {s : Nat} (hs : SetAt L r xs s) : ∃ l, RoundAt L r xs s l := by
  have q := hs.at_
  rw [runB_iff h, backB_iff h] at q
  obtain ⟨m, m1, m2, m3⟩ := Gm.round_L (Gm.xx_rg h.rg s) q
  obtain ⟨l, l1, ⟨l2, l3⟩, l4⟩ := Gm.least_of (P := fun l => 0 < l ∧ rowT L r xs (s + l) = rowT L r xs s) (m := m) ⟨m1, (rowT_add s m).trans m3⟩
  exact ⟨l, hs, l2, by omega, l3, fun i i1 i2 e => l4 i i2 ⟨i1, e⟩⟩
theorem round_at_ok (h : RR L r xs) {s l : Nat} (H : RoundAt L r xs s l) : f_round_at [rgD L r, row xs] M = .ok (.tup [.int (s : Nat), .int (l : Nat)]) M := by
  have hL := h.ring.L
  have hle := H.le
  have h0 := H.pos
  simp -implicitDefEqProofs [f_round_at, runDef, b_round_at]
  have e2 : ∀ t, f_next_row [rgD L r, row (rowT L r xs t)] M = .ok (row (rowT L r xs (t + 1))) M := fun t => next_at h t
  rw [settled_ok h H.set]
  simp -implicitDefEqProofs [e2]
  let st : Nat → En := fun i => [Slot.v (rgD L r), .v (row xs), .v (.int (s : Nat)), .v (.str (wordP L r xs s)), .v (row (rowT L r xs s)), .v (row (rowT L r xs (s + (i + 1)))), .v (.int ((i + 1 : Nat) : Int))]
  rw [show ([Slot.v (rgD L r), Slot.v (row xs), Slot.v (D.int ↑s), Slot.v (D.str (wordP L r xs s)), Slot.v (row (rowT L r xs s)), Slot.v (row (rowT L r xs (s + 1))), Slot.v (D.int 1)] : En) = st 0 from rfl]
  rw [whileD_run st (l - 1) ?ht ?hs ?he 0 1000000 (Nat.zero_le _) (by omega)]
  · simp -implicitDefEqProofs [st]
    omega
  case ht =>
    intro i hi
    have := H.no (i + 1) (by omega) (by omega)
    simp -implicitDefEqProofs [st, ne_of, this]
  case hs =>
    intro i hi
    simp -implicitDefEqProofs [st, e2]
    rfl
  case he =>
    have : s + (l - 1 + 1) = s + l := by omega
    simp -implicitDefEqProofs [st, ne_of, this, H.back]
end Gc
end
section
set_option autoImplicit false
set_option linter.all false
set_option maxRecDepth 100000
namespace Gc
open PySem Mi
open Gm (nextsP gapsP movedP nextP rowT Runs Backs xx ext bb wm rowOf Row)
variable {M : Mst} {L r : Int} {xs : List Int}
theorem round_of_ok (h : RR L r xs) {s l : Nat} (H : RoundAt L r xs s l) : f_round_of [rgD L r, row xs] M = .ok (.tup [.int (s : Nat), .int (l : Nat)]) M := by
  show runDef (tbl T_round_of) 2 b_round_of _ M = _
  rw [run_eq]
  have e1 : tbl T_round_of 5 [rgD L r, row xs] M = f_need_row [rgD L r, row xs] M := rfl
  have e2 : tbl T_round_of 56 [rgD L r, row xs] M = f_round_at [rgD L r, row xs] M := rfl
  simp -implicitDefEqProofs [b_round_of, e1, e2, need_row_ok h.ring h.good, round_at_ok h H]
theorem flow_of_ok (h : Ring L r) {n : Int} : f_flow_of [rgD L r, .int n] M = .ok (.int (min (r * n) (L - n))) M := by
  show runDef (tbl T_flow_of) 2 b_flow_of _ M = _
  rw [run_eq]
  have hr := h.r
  have e1 : binD .mul (.int r) (.int n) = some (.int (r * n)) := mul_small (by omega) (by omega)
  have e2 : b2D .min (.int (r * n)) (.int (L - n)) = some (.int (min (r * n) (L - n))) := by
    simp [b2D]
    omega
  simp -implicitDefEqProofs [b_flow_of, e1, e2]
theorem need_many_ok (h : Ring L r) {n : Int} (h1 : 1 ≤ n) (h2 : n ≤ L) : f_need_many [rgD L r, .int n] M = .ok .non M := by
  show runDef (tbl T_need_many) 2 b_need_many _ M = _
  rw [run_eq]
  have e1 : tbl T_need_many 3 [rgD L r] M = f_need_ring [rgD L r] M := rfl
  have e2 : tbl T_need_many 1 [.int n, .int 1, .int L] M = f_is_whole [.int n, .int 1, .int L] M := rfl
  simp -implicitDefEqProofs [b_need_many, e1, e2, need_ring_ok h, is_whole_int, h1, h2]
theorem flow_ok (h : Ring L r) {n : Int} (h1 : 1 ≤ n) (h2 : n ≤ L) : f_flow [rgD L r, .int n] M = .ok (.int (min (r * n) (L - n))) M := by
  show runDef (tbl T_flow) 2 b_flow _ M = _
  rw [run_eq]
  have e1 : tbl T_flow 88 [rgD L r, .int n] M = f_need_many [rgD L r, .int n] M := rfl
  have e2 : tbl T_flow 89 [rgD L r, .int n] M = f_flow_of [rgD L r, .int n] M := rfl
  simp -implicitDefEqProofs [b_flow, e1, e2, need_many_ok h h1 h2, flow_of_ok h]
theorem fold_lexmax {γ : Type} (f g : γ → Int) : ∀ (ks : List γ) (k : γ), ∃ z, z ∈ k :: ks ∧ (ks.map fun k => [f k, g k]).foldl (fun a b => if HT.lexLt a b then b else a) [f k, g k] = [f z, g z] ∧ ∀ y ∈ k :: ks, f y < f z ∨ f y = f z ∧ g y ≤ g z
  | [], k => ⟨k, by simp, rfl, fun y hy => by
    rw [List.mem_singleton.mp hy]
    omega⟩
  | j :: ks, k => by
    rw [List.map_cons, List.foldl_cons, lex2]
    by_cases q : (decide (f k < f j) || (decide (f k = f j) && decide (g k < g j))) = true
    · rw [if_pos q]
      obtain ⟨z, h1, h2, h3⟩ := fold_lexmax f g ks j
      refine ⟨z, List.mem_cons_of_mem _ h1, h2, fun y hy => ?_⟩
      rcases List.mem_cons.mp hy with rfl | hy
      · have := h3 j (by simp)
        simp at q
        omega
      · exact h3 y hy
    · rw [if_neg q]
      obtain ⟨z, h1, h2, h3⟩ := fold_lexmax f g ks k
      refine ⟨z, ?_, h2, fun y hy => ?_⟩
      · rcases List.mem_cons.mp h1 with rfl | h1
        · simp
        · simp [h1]
      · rcases List.mem_cons.mp hy with rfl | hy
        · exact h3 y (by simp)
        · rcases List.mem_cons.mp hy with rfl | hy
          · have := h3 k (by simp)
            simp at q
            omega
          · exact h3 y (by simp [hy])
theorem max_pairs {γ : Type} {ks : List γ} (h : ks ≠ []) (f g : γ → Int) : ∃ z, z ∈ ks ∧ b1D .max (.lst (ks.map fun k => D.tup [.int (f k), .int (g k)])) = some (.tup [.int (f z), .int (g z)]) ∧ ∀ y ∈ ks, f y < f z ∨ f y = f z ∧ g y ≤ g z := by
  cases ks with
  | nil => exact absurd rfl h
  | cons k ks =>
    obtain ⟨z, h1, h2, h3⟩ := fold_lexmax f g ks k
    refine ⟨z, h1, ?_, h3⟩
    have e1 := ints_pairs (ks := k :: ks) h fun k => [.int (f k), .int (g k)]
    have e2 := rows_pairs (k :: ks) f g
    have e0 : b1D .max (.lst ((k :: ks).map fun k => D.tup [.int (f k), .int (g k)])) = maxD ((k :: ks).map fun k => D.tup [.int (f k), .int (g k)]) := rfl
    rw [e0]
    unfold maxD
    rw [e1, e2]
    simp only [List.map_cons]
    rw [h2]
    rfl
def flP (L r n : Int) : Int := min (r * n) (L - n)
theorem best_many_ok (h : Ring L r) : ∃ z : Nat, z < L.toNat ∧ (∀ y, y < L.toNat → flP L r ((y : Int) + 1) < flP L r ((z : Int) + 1) ∨ flP L r ((y : Int) + 1) = flP L r ((z : Int) + 1) ∧ z ≤ y) ∧ f_best_many [rgD L r] M = .ok (.tup [.int (flP L r ((z : Int) + 1)), .int ((z : Int) + 1)]) M := by
  have hL := h.L
  have ne : List.range L.toNat ≠ [] := by
    intro e
    have := congrArg List.length e
    rw [List.length_range, List.length_nil] at this
    omega
  obtain ⟨z, h1, h2, h3⟩ := max_pairs ne (fun y : Nat => flP L r ((y : Int) + 1)) fun y => -((y : Int) + 1)
  refine ⟨z, List.mem_range.mp h1, fun y hy => ?_, ?_⟩
  · have := h3 y (List.mem_range.mpr hy)
    omega
  · show runDef (tbl T_best_many) 4 b_best_many _ M = _
    rw [run_eq]
    have e1 : tbl T_best_many 3 [rgD L r] M = f_need_ring [rgD L r] M := rfl
    have e2 : ∀ n, tbl T_best_many 89 [rgD L r, .int n] M = f_flow_of [rgD L r, .int n] M := fun n => rfl
    have e3 : rngOk 1 (L + 1) = true := rngOk_2 (by omega) (by omega) (by omega) (by omega)
    have e4 : rngI 1 (L + 1) = (List.range L.toNat).map fun i : Nat => D.int ((i : Int) + 1) := by
      unfold rngI
      rw [show (L + 1 - 1).toNat = L.toNat by omega]
      refine List.map_congr_left fun i hi => ?_
      rw [Int.add_comm]
    simp -implicitDefEqProofs [b_best_many, e1, need_ring_ok h, e3, e4]
    rw [compD_mapI (g := fun i : Nat => D.tup [.int (flP L r ((i : Int) + 1)), .int (-((i : Int) + 1))])]
    · simp -implicitDefEqProofs [h2]
    · intro i hi
      simp -implicitDefEqProofs [e2, flow_of_ok h, flP]
end Gc
end
section
set_option autoImplicit false
set_option linter.all false
set_option maxRecDepth 100000
namespace Gc
open PySem Mi
open Gm (nextsP gapsP movedP nextP rowT Runs Backs xx ext bb wm rowOf Row)
variable {M : Mst} {L r : Int} {xs : List Int}
theorem gcd_run {c : En → Mst → R D} {f : En → Mst → SR} {M : Mst} (s : Nat → Nat → En) (ht : ∀ i j, 0 < j → c (s i j) M = .ok (.bl true) M) (hs : ∀ i j, 0 < j → f (s i j) M = .nx (s j (i % j)) M) (he : ∀ i, c (s i 0) M = .ok (.bl false) M) : ∀ (n j i : Nat), j < n → whileD c f n (s i j) M = .nx (s (Nat.gcd i j) 0) M
  | 0, j, i, h => by omega
  | n + 1, j, i, h => by
    by_cases e : j = 0
    · subst e
      rw [Nat.gcd_zero_right]
      exact whileD_stop (he i)
    · rw [whileD_step (ht i j (by omega)) (hs i j (by omega)), gcd_run s ht hs he n (i % j) j (by have := Nat.mod_lt i (show 0 < j by omega); omega)]
      rw [Nat.gcd_comm i j, Nat.gcd_rec j i, Nat.gcd_comm j]
theorem low_loop {Φ : Fs} {a b : Nat} (hb0 : 0 < b) (hb : b < 1000000) : runDef Φ 4 b_lowest [.int (a : Nat), .int (b : Nat)] M = .ok (.tup [.int ((a / Nat.gcd a b : Nat) : Int), .int ((b / Nat.gcd a b : Nat) : Int)]) M := by
  rw [run_eq]
  have hg : 0 < Nat.gcd a b := Nat.gcd_pos_of_pos_right _ hb0
  have hg2 : Nat.gcd a b ≤ b := Nat.gcd_le_right _ hb0
  have e1 : ∀ c : Nat, binD .fdiv (.int (c : Int)) (.int (Nat.gcd a b : Nat)) = some (.int ((c / Nat.gcd a b : Nat) : Int)) := fun c => by
    rw [fdiv_small (by omega) (by omega), ← Int.natCast_ediv]
  simp -implicitDefEqProofs [b_lowest]
  let st : Nat → Nat → En := fun i j => [.v (.int (a : Nat)), .v (.int (b : Nat)), .v (.int (i : Nat)), .v (.int (j : Nat))]
  rw [show ([Slot.v (D.int (a : Nat)), .v (.int (b : Nat)), .v (.int (a : Nat)), .v (.int (b : Nat))] : En) = st a b from rfl]
  rw [gcd_run st ?ht ?hs ?he 1000000 b a hb]
  · simp -implicitDefEqProofs [st, e1]
  case ht =>
    intro i j hj
    have : ¬ j = 0 := by omega
    simp -implicitDefEqProofs [st, ne_of, this]
  case hs =>
    intro i j hj
    have : binD .mod (.int (i : Nat)) (.int (j : Nat)) = some (.int ((i % j : Nat) : Int)) := by
      rw [mod_ints (by omega), ← Int.natCast_emod]
    simp -implicitDefEqProofs [st, this, -Int.natCast_emod]
  case he =>
    intro i
    simp -implicitDefEqProofs [st, ne_of]
theorem lowest_ok {a b : Nat} (hb0 : 0 < b) (hb : b < 1000000) : f_lowest [.int (a : Nat), .int (b : Nat)] M = .ok (.tup [.int ((a / Nat.gcd a b : Nat) : Int), .int ((b / Nat.gcd a b : Nat) : Int)]) M := low_loop hb0 hb
theorem law_low_ok {a b : Nat} (hb0 : 0 < b) (hb : b < 1000000) : f__law_low [.int (a : Nat), .int (b : Nat)] M = .ok (.tup [.int ((a / Nat.gcd a b : Nat) : Int), .int ((b / Nat.gcd a b : Nat) : Int)]) M := low_loop hb0 hb
/-- the pace -/
theorem pace_ok (h : RR L r xs) : ∃ a b : Int, f_pace [rgD L r, row xs] M = .ok (.tup [.int a, .int b]) M ∧ 0 < b ∧ ((xs.length : Int) * (r + 1) ≤ L → a = r ∧ b = 1) ∧ (¬ (xs.length : Int) * (r + 1) ≤ L → a = ((L.toNat - xs.length) / Nat.gcd (L.toNat - xs.length) xs.length : Nat) ∧ b = (xs.length / Nat.gcd (L.toNat - xs.length) xs.length : Nat)) := by
  have hL := h.ring.L
  have hn := h.n0
  have hl := h.len
  have few := h.few24
  have e1 : tbl T_pace 5 [rgD L r, row xs] M = f_need_row [rgD L r, row xs] M := rfl
  have e2 : binD .mul (.int (xs.length : Nat)) (.int (r + 1)) = some (.int ((xs.length : Int) * (r + 1))) := mul_small (by omega) (by omega)
  have e3 : f_lowest [.int (L - (xs.length : Nat)), .int (xs.length : Nat)] M = f_lowest [.int ((L.toNat - xs.length : Nat) : Int), .int (xs.length : Nat)] M := by
    rw [show L - (xs.length : Nat) = ((L.toNat - xs.length : Nat) : Int) by omega]
  have e4 : f_pace [rgD L r, row xs] M = finD (MS.dens (tbl T_pace) b_pace [.v (rgD L r), .v (row xs), .no, .no, .no] M) := rfl
  by_cases q : (xs.length : Int) * (r + 1) ≤ L
  · refine ⟨r, 1, ?_, by omega, fun _ => ⟨rfl, rfl⟩, fun h => absurd q h⟩
    rw [e4]
    simp -implicitDefEqProofs [b_pace, e1, need_row_ok h.ring h.good, e2, q, rgD]
  · refine ⟨_, _, ?_, ?_, fun h => absurd h q, fun _ => ⟨rfl, rfl⟩⟩
    · rw [e4]
      simp -implicitDefEqProofs [b_pace, e1, need_row_ok h.ring h.good, e2, q, rgD, e3, lowest_ok h.n0 (show xs.length < 1000000 by omega), -Int.natCast_ediv]
    · have hg : 0 < Nat.gcd (L.toNat - xs.length) xs.length := Nat.gcd_pos_of_pos_right _ hn
      have hg2 : Nat.gcd (L.toNat - xs.length) xs.length ≤ xs.length := Nat.gcd_le_right _ hn
      have := Nat.div_pos hg2 hg
      omega
end Gc
end
section
set_option autoImplicit false
set_option linter.all false
namespace Gm
/-! ### sums -/
def sm : Nat → (Nat → Int) → Int
  | 0, _ => 0
  | n + 1, f => sm n f + f n
theorem sum_range (n : Nat) (f : Nat → Int) : ((List.range n).map f).sum = sm n f := by
  induction n with
  | zero => rfl
  | succ n ih =>
    rw [List.range_succ, List.map_append, List.sum_append, ih]
    simp [sm]
theorem sm_congr {n : Nat} {f g : Nat → Int} (h : ∀ j, j < n → f j = g j) : sm n f = sm n g := by
  induction n with
  | zero => rfl
  | succ n ih =>
    show sm n f + f n = sm n g + g n
    rw [ih fun j hj => h j (by omega), h n (by omega)]
theorem sm_add (n : Nat) (f g : Nat → Int) : sm n (fun j => f j + g j) = sm n f + sm n g := by
  induction n with
  | zero => rfl
  | succ n ih =>
    simp only [sm, ih]
    omega
theorem sm_sub (n : Nat) (f g : Nat → Int) : sm n (fun j => f j - g j) = sm n f - sm n g := by
  induction n with
  | zero => rfl
  | succ n ih =>
    simp only [sm, ih]
    omega
theorem sm_const (n : Nat) (c : Int) : sm n (fun _ => c) = c * (n : Int) := by
  induction n with
  | zero => simp [sm]
  | succ n ih =>
    simp only [sm, ih]
    rw [Int.natCast_succ, Int.mul_add]
    omega
theorem sm_succ1 (n : Nat) (f : Nat → Int) : sm n (fun j => f (j + 1)) = sm n f + f n - f 0 := by
  induction n with
  | zero => simp [sm]
  | succ n ih =>
    simp only [sm, ih]
    omega
theorem sm_shift {n : Nat} {f : Nat → Int} {c : Int} (h : ∀ j, f (j + n) = f j + c) (m : Nat) : sm n (fun j => f (j + m)) = sm n f + c * (m : Int) := by
  induction m with
  | zero => simp
  | succ m ih =>
    have e := sm_succ1 n (fun j => f (j + m))
    have e2 : (fun j => (fun j => f (j + m)) (j + 1)) = fun j => f (j + (m + 1)) := by
      funext j
      show f (j + 1 + m) = _
      rw [show j + 1 + m = j + (m + 1) by omega]
    rw [e2] at e
    rw [e, ih]
    have h2 := h m
    simp only [Nat.zero_add]
    rw [Nat.add_comm n m, h2, Int.natCast_succ, Int.mul_add]
    omega
theorem sm_le {n : Nat} {f g : Nat → Int} (h : ∀ j, j < n → f j ≤ g j) : sm n f ≤ sm n g := by
  induction n with
  | zero => exact Int.le_refl _
  | succ n ih =>
    have h1 := ih fun j hj => h j (by omega)
    have h2 := h n (by omega)
    show sm n f + f n ≤ sm n g + g n
    omega
section
variable {L r : Int} {n : Nat} {a y : Nat → Int}
/-- once settled, all together -/
theorem flow_runs (Y : Rg L r n y) (h : Runs r y) : sm n (xx r y 1) - sm n y = r * (n : Int) := by
  have e : sm n (xx r y 1) = sm n (fun j => y j + r) := sm_congr fun j _ => by
    rw [runs_go h]
    simp
  rw [e, sm_add, sm_const]
  omega
theorem flow_backs (Y : Rg L r n y) (h : Backs r y) : sm n (xx r y 1) - sm n y = L - (n : Int) := by
  have e : sm n (xx r y 1) = sm n (fun j => y (j + 1) - 1) := sm_congr fun j _ => by
    rw [backs_go h]
    simp
  rw [e, sm_sub, sm_const, sm_succ1]
  have := Y.per 0
  rw [Nat.zero_add] at this
  omega
theorem flow_min (Y : Rg L r n y) (h : Runs r y ∨ Backs r y) : sm n (xx r y 1) - sm n y = min (r * (n : Int)) (L - (n : Int)) := by
  have e : (r + 1) * (n : Int) = r * (n : Int) + (n : Int) := by rw [Int.add_mul]; simp
  rcases h with h | h
  · have h1 := flow_runs Y h
    have h2 := runs_room Y h
    omega
  · have h1 := flow_backs Y h
    have h2 := backs_tight Y h
    omega
theorem settled_at {a : Nat → Int} (R : Rg L r n a) {t : Nat} (ht : n ≤ t + 1) : Runs r (xx r a t) ∨ Backs r (xx r a t) := by
  by_cases q : (r + 1) * (n : Int) ≤ L
  · exact .inl (runs_settled R q ht)
  · exact .inr (backs_settled R (by omega) ht)
theorem flow_at (R : Rg L r n a) {t : Nat} (ht : n ≤ t + 1) : sm n (xx r a (t + 1)) - sm n (xx r a t) = min (r * (n : Int)) (L - (n : Int)) := by
  have e : xx r a (t + 1) = xx r (xx r a t) 1 := funext fun j => xx_add t 1 j
  rw [e]
  exact flow_min (xx_rg R t) (settled_at R ht)
/-- settled, it stays so -/
theorem runs_stay (h : Runs r y) (t : Nat) : Runs r (xx r y t) := fun j => by
  rw [runs_go h, runs_go h]
  have := h j
  omega
theorem backs_stay (h : Backs r y) (t : Nat) : Backs r (xx r y t) := fun j => by
  rw [backs_go h, backs_go h]
  have := h (j + t)
  rw [show j + 1 + t = j + t + 1 by omega]
  omega
theorem settled_stay (h : Runs r y ∨ Backs r y) (t : Nat) : Runs r (xx r y t) ∨ Backs r (xx r y t) := h.imp (fun h => runs_stay h t) fun h => backs_stay h t
/-- many beats, settled -/
theorem flow_many (Y : Rg L r n y) (h : Runs r y ∨ Backs r y) (t : Nat) : sm n (xx r y t) - sm n y = min (r * (n : Int)) (L - (n : Int)) * (t : Int) := by
  induction t with
  | zero =>
    rw [sm_congr fun j _ => xx_zero j]
    simp
  | succ t ih =>
    have e : xx r y (t + 1) = xx r (xx r y t) 1 := funext fun j => xx_add t 1 j
    have h2 := flow_min (xx_rg Y t) (settled_stay h t)
    rw [← e] at h2
    rw [Int.natCast_succ, Int.mul_add]
    omega
/-- what a gate hears in l times L beats, settled -/
theorem heard_round (Y : Rg L r n y) (h : Runs r y ∨ Backs r y) (c : Int) (l N : Nat) (hN : (N : Int) = (l : Int) * L) : sm n (fun j => (xx r y N j - c - 1) / L - (y j - c - 1) / L) = min (r * (n : Int)) (L - (n : Int)) * (l : Int) := by
  have hL := Y.L0
  have e0 : (r + 1) * (n : Int) = r * (n : Int) + (n : Int) := by rw [Int.add_mul]; simp
  rcases h with h | h
  · have key : ∀ j, (xx r y N j - c - 1) / L - (y j - c - 1) / L = r * (l : Int) := fun j => by
      rw [runs_go h, hN, show y j + r * ((l : Int) * L) - c - 1 = (y j - c - 1) + r * (l : Int) * L by rw [Int.mul_assoc]; omega]
      rw [Int.add_mul_ediv_right _ _ (by omega)]
      omega
    rw [sm_congr fun j _ => key j, sm_const]
    have h2 := runs_room Y h
    rw [show min (r * (n : Int)) (L - (n : Int)) = r * (n : Int) by omega]
    rw [Int.mul_assoc, Int.mul_assoc, Int.mul_comm (l : Int)]
  · have key : ∀ j, (xx r y N j - c - 1) / L - (y j - c - 1) / L = (y (j + N) - c - 1) / L - (y j - c - 1) / L - (l : Int) := fun j => by
      rw [backs_go h, hN, show y (j + N) - (l : Int) * L - c - 1 = (y (j + N) - c - 1) + (-(l : Int)) * L by rw [Int.neg_mul]; omega]
      rw [Int.add_mul_ediv_right _ _ (by omega)]
      omega
    rw [sm_congr fun j _ => key j, sm_sub, sm_sub, sm_const]
    have hper : ∀ j, (y (j + n) - c - 1) / L = (y j - c - 1) / L + 1 := fun j => by
      rw [Y.per, show y j + L - c - 1 = (y j - c - 1) + 1 * L by omega, Int.add_mul_ediv_right _ _ (by omega)]
    have e := sm_shift (f := fun j => (y j - c - 1) / L) hper N
    rw [e]
    have h2 := backs_tight Y h
    rw [show min (r * (n : Int)) (L - (n : Int)) = L - (n : Int) by omega]
    rw [Int.sub_mul, hN, Int.one_mul, Int.mul_comm (l : Int) L, Int.mul_comm (l : Int) (n : Int)]
    omega
end
end Gm
end
section
set_option autoImplicit false
set_option linter.all false
namespace Gm
section
variable {L r : Int} {xs : List Int}
theorem rowT_det (R : Row L xs) (hr : 0 ≤ r) {t u : Nat} (h : rowT L r xs t = rowT L r xs u) (k : Nat) : rowT L r xs (t + k) = rowT L r xs (u + k) := by
  induction k with
  | zero => exact h
  | succ k ih => rw [← Nat.add_assoc, ← Nat.add_assoc, ← rowT_next R hr, ← rowT_next R hr, ih]
theorem rowT_runs (R : Row L xs) (hr : 0 ≤ r) {t u : Nat} (h : rowT L r xs t = rowT L r xs u) : Runs r (xx r (ext L xs) t) ↔ Runs r (xx r (ext L xs) u) := by
  have e1 := runs_gaps (xx_rg (R.rg hr) t)
  have e2 := runs_gaps (xx_rg (R.rg hr) u)
  have h : rowOf L xs.length (xx r (ext L xs) t) = rowOf L xs.length (xx r (ext L xs) u) := h
  rw [← e1, ← e2, h]
theorem rowT_backs (R : Row L xs) (hr : 0 ≤ r) {t u : Nat} (h : rowT L r xs t = rowT L r xs u) : Backs r (xx r (ext L xs) t) ↔ Backs r (xx r (ext L xs) u) := by
  have e1 := backs_gaps (xx_rg (R.rg hr) t)
  have e2 := backs_gaps (xx_rg (R.rg hr) u)
  have h : rowOf L xs.length (xx r (ext L xs) t) = rowOf L xs.length (xx r (ext L xs) u) := h
  rw [← e1, ← e2, h]
/-- a row that comes again comes again for ever -/
theorem rowT_rep (R : Row L xs) (hr : 0 ≤ r) {t p : Nat} (h : rowT L r xs (t + p) = rowT L r xs t) (m : Nat) : rowT L r xs (t + p * m) = rowT L r xs t := by
  induction m with
  | zero => rfl
  | succ m ih =>
    have := rowT_det R hr h (p * m)
    rw [ih] at this
    rw [← this]
    congr 1
    rw [Nat.mul_succ]
    omega
/-- a row that comes again has settled -/
theorem again_settled (R : Row L xs) (hr : 0 ≤ r) {t p : Nat} (hp : 0 < p) (h : rowT L r xs (t + p) = rowT L r xs t) : Runs r (xx r (ext L xs) t) ∨ Backs r (xx r (ext L xs) t) := by
  have h1 := rowT_rep R hr h xs.length
  have h2 : xs.length ≤ (t + p * xs.length) + 1 := by
    have : 1 * xs.length ≤ p * xs.length := Nat.mul_le_mul_right _ hp
    omega
  rcases settled_at (R.rg hr) h2 with q | q
  · exact .inl ((rowT_runs R hr h1).mp q)
  · exact .inr ((rowT_backs R hr h1).mp q)
/-- s: it settles, l: the least number of beats from there to the same row -/
structure Rnd (L r : Int) (xs : List Int) (s l : Nat) : Prop where
  at_ : Runs r (xx r (ext L xs) s) ∨ Backs r (xx r (ext L xs) s)
  no : ∀ t, t < s → ¬ (Runs r (xx r (ext L xs) t) ∨ Backs r (xx r (ext L xs) t))
  pos : 0 < l
  back : rowT L r xs (s + l) = rowT L r xs s
  least : ∀ i, 0 < i → i < l → rowT L r xs (s + i) ≠ rowT L r xs s
variable {s l : Nat}
theorem Rnd.per (P : Rnd L r xs s l) (R : Row L xs) (hr : 0 ≤ r) {t : Nat} (ht : s ≤ t) (m : Nat) : rowT L r xs (t + l * m) = rowT L r xs t := by
  have h := rowT_det R hr (rowT_rep R hr P.back m) (t - s)
  rw [show s + l * m + (t - s) = t + l * m by omega, show s + (t - s) = t by omega] at h
  exact h
/-- two moments with the same row -/
theorem Rnd.same (P : Rnd L r xs s l) (R : Row L xs) (hr : 0 ≤ r) {t p : Nat} (hp : 0 < p) (h : rowT L r xs (t + p) = rowT L r xs t) : s ≤ t ∧ l ≤ p := by
  have h1 : s ≤ t := by
    by_cases q : s ≤ t
    · exact q
    · exact absurd (again_settled R hr hp h) (P.no t (by omega))
  refine ⟨h1, ?_⟩
  by_cases q : l ≤ p
  · exact q
  · exfalso
    -- t to s + l * (t - s), and on
    have hl := P.pos
    have ge : t ≤ s + l * (t - s) := by
      have : 1 * (t - s) ≤ l * (t - s) := Nat.mul_le_mul_right _ hl
      omega
    have h2 := rowT_det R hr h (s + l * (t - s) - t)
    rw [show t + p + (s + l * (t - s) - t) = s + l * (t - s) + p by omega, show t + (s + l * (t - s) - t) = s + l * (t - s) by omega] at h2
    have h3 := rowT_rep R hr P.back (t - s)
    have h4 := P.per R hr (t := s + p) (by omega) (t - s)
    rw [show s + p + l * (t - s) = s + l * (t - s) + p by omega, h2, h3] at h4
    exact P.least p hp (by omega) h4.symm
/-- all rows up to one round behind the first are unlike -/
theorem Rnd.apart (P : Rnd L r xs s l) (R : Row L xs) (hr : 0 ≤ r) {t u : Nat} (h : t < u) (hu : u < s + l) : rowT L r xs t ≠ rowT L r xs u := fun e => by
  have := P.same R hr (t := t) (p := u - t) (by omega) (by rw [show t + (u - t) = u by omega]; exact e.symm)
  omega
/-- each row is one of the first s + l -/
theorem Rnd.early (P : Rnd L r xs s l) (R : Row L xs) (hr : 0 ≤ r) (t : Nat) : ∃ u, u < s + l ∧ u ≤ t ∧ rowT L r xs t = rowT L r xs u := by
  by_cases h : t < s + l
  · exact ⟨t, h, Nat.le_refl _, rfl⟩
  · have hl := P.pos
    have hm := Nat.mod_lt (t - s) hl
    have hd := Nat.mod_add_div (t - s) l
    refine ⟨s + (t - s) % l, by omega, by have := Nat.mod_le (t - s) l; omega, ?_⟩
    have := P.per R hr (t := s + (t - s) % l) (by omega) ((t - s) / l)
    rw [← this]
    congr 1
    omega
/-- two rows: if they are ever the same, they are so early -/
theorem meet_early {ys : List Int} {s2 l2 : Nat} (P : Rnd L r xs s l) (R : Row L xs) (P2 : Rnd L r ys s2 l2) (R2 : Row L ys) (hr : 0 ≤ r) {t : Nat} (h : rowT L r xs t = rowT L r ys t) : ∃ u, u < max s s2 + l * l2 ∧ u ≤ t ∧ rowT L r xs u = rowT L r ys u := by
  induction t using Nat.strongRecOn with
  | ind t ih =>
    by_cases q : t < max s s2 + l * l2
    · exact ⟨t, q, Nat.le_refl _, h⟩
    · have hl := P.pos
      have hl2 := P2.pos
      have hm : 0 < l * l2 := Nat.mul_pos hl hl2
      have e1 := P.per R hr (t := t - l * l2) (by omega) l2
      have e2 := P2.per R2 hr (t := t - l * l2) (by omega) l
      rw [Nat.mul_comm l2 l] at e2
      rw [show t - l * l2 + l * l2 = t by omega] at e1 e2
      obtain ⟨u, h1, h2, h3⟩ := ih (t - l * l2) (by omega) (by rw [← e1, ← e2, h])
      exact ⟨u, h1, by omega, h3⟩
theorem meet_stay {ys : List Int} (R : Row L xs) (R2 : Row L ys) (hr : 0 ≤ r) {t : Nat} (h : rowT L r xs t = rowT L r ys t) (k : Nat) : rowT L r xs (t + k) = rowT L r ys (t + k) := by
  induction k with
  | zero => exact h
  | succ k ih => rw [← Nat.add_assoc, ← rowT_next R hr, ← rowT_next R2 hr, ih]
end
end Gm
end
section
set_option autoImplicit false
set_option linter.all false
set_option maxRecDepth 100000
namespace Gc
open PySem Mi
open Gm (nextsP gapsP movedP nextP rowT Runs Backs xx ext bb wm rowOf Row sm)
variable {M : Mst} {L r : Int} {xs : List Int}
/-- a for loop: states C 0, C 1, .. ; τ: what is left open -/
theorem forD_go {γ τ : Type} {f : D → En → Mst → SR} {h : γ → D} (C : Nat → τ → En) (m : Nat → τ → Mst) : ∀ {xs : List γ} {i : Nat} {k : τ}, (∀ (j : Nat) (x : γ) (k : τ), xs[j]? = some x → ∃ k', f (h x) (C (i + j) k) (m (i + j) k) = .nx (C (i + j + 1) k') (m (i + j + 1) k')) → ∃ k', forD f (xs.map h) (C i k) (m i k) = .nx (C (i + xs.length) k') (m (i + xs.length) k')
  | [], i, k, hs => ⟨k, rfl⟩
  | x :: xs, i, k, hs => by
    obtain ⟨k1, e1⟩ := hs 0 x k rfl
    obtain ⟨k2, e2⟩ := forD_go C m (xs := xs) (i := i + 1) (k := k1) fun j y k ey => by
      have := hs (j + 1) y k (by simpa using ey)
      rw [show i + (j + 1) = i + 1 + j by omega] at this
      exact this
    refine ⟨k2, ?_⟩
    rw [List.length_cons, show i + (xs.length + 1) = i + 1 + xs.length by omega, ← e2]
    rw [List.map_cons]
    unfold forD
    simp only [Nat.add_zero] at e1
    rw [e1]
    cases xs <;> rfl
theorem forD_st {γ τ : Type} {f : D → En → Mst → SR} {h : γ → D} {ks : List γ} {ρ : En} {M : Mst} {Z : SR} (hz : forD f (ks.map h) ρ M = Z) (C : Nat → τ → En) (m : Nat → τ → Mst) (k0 : τ) (hρ : ρ = C 0 k0) (hM : M = m 0 k0) (hs : ∀ (j : Nat) (x : γ) (k : τ), ks[j]? = some x → ∃ k', f (h x) (C j k) (m j k) = .nx (C (j + 1) k') (m (j + 1) k')) : ∃ k', Z = .nx (C ks.length k') (m ks.length k') := by
  obtain ⟨k', e⟩ := forD_go (f := f) (h := h) C m (xs := ks) (i := 0) (k := k0) fun j x k ex => by
    rw [Nat.zero_add]
    exact hs j x k ex
  rw [Nat.zero_add] at e
  subst hρ hM
  exact ⟨k', hz ▸ e⟩
theorem need_cell_ok (h : Ring L r) {c : Int} (h0 : 0 ≤ c) (h1 : c < L) : f_need_cell [rgD L r, .int c] M = .ok .non M := by
  show runDef (tbl T_need_cell) 2 b_need_cell _ M = _
  rw [run_eq]
  have : c ≤ L - 1 := by omega
  simp -implicitDefEqProofs [b_need_cell, is_whole_int, h0, this]
def passP (L r : Int) (xs : List Int) (c : Int) (T : Nat) : Int := sm xs.length fun j => (xx r (ext L xs) T j - c - 1) / L - (ext L xs j - c - 1) / L
theorem zip_gone (T : Nat) : xs.zip (goneP L r xs T) = (List.range xs.length).map fun j => (ext L xs j, xx r (ext L xs) T j - ext L xs j) := by
  unfold goneP
  conv => lhs; rw [show xs.zip ((List.range xs.length).map fun j => xx r (ext L xs) T j - ext L xs j) = ((List.range xs.length).map (ext L xs)).zip ((List.range xs.length).map fun j => xx r (ext L xs) T j - ext L xs j) from by rw [← Gm.self_range]]
  rw [Gm.zip_range]
theorem range_at {n j x : Nat} (h : (List.range n)[j]? = some x) : x = j ∧ j < n := by
  obtain ⟨h1, h2⟩ := List.getElem?_eq_some_iff.mp h
  rw [List.length_range] at h1
  rw [List.getElem_range] at h2
  exact ⟨h2.symm, h1⟩
theorem passed_by_ok (h : RR L r xs) {c : Int} {T : Nat} (hT : (T : Int) ≤ 1000000000000000000) : f_passed_by [rgD L r, row xs, .int c, .int (T : Nat)] M = .ok (.int (passP L r xs c T)) M := by
  show runDef (tbl T_passed_by) 7 b_passed_by _ M = _
  rw [run_eq]
  have e1 : f_all_gone [rgD L r, row xs, .int (T : Nat)] M = .ok (row (goneP L r xs T)) M := all_gone_ok h hT
  have hL := h.ring.L
  simp -implicitDefEqProofs [b_passed_by, e1]
  rw [zipD_ints, zip_gone, List.map_map]
  generalize hz : forD _ _ _ _ = Z
  obtain ⟨⟨s5, s6⟩, rfl⟩ := forD_st (τ := Slot × Slot) hz (fun i k => [.v (rgD L r), .v (row xs), .v (.int c), .v (.int (T : Nat)), .v (.int (sm i fun j => (xx r (ext L xs) T j - c - 1) / L - (ext L xs j - c - 1) / L)), k.1, k.2]) (fun _ _ => M) (.no, .no) rfl rfl (by
    rintro j x ⟨s5, s6⟩ hx
    obtain ⟨rfl, hj⟩ := range_at hx
    have d1 : ∀ i : Int, binD .fdiv (.int i) (.int L) = some (.int (i / L)) := fun i => fdiv_small (by omega) (by omega)
    refine ⟨(.v (.int (ext L xs x)), .v (.int (xx r (ext L xs) T x - ext L xs x))), ?_⟩
    simp -implicitDefEqProofs [d1]
    simp only [sm]
    rw [show ext L xs x + (xx r (ext L xs) T x - ext L xs x) - c - 1 = xx r (ext L xs) T x - c - 1 by omega]
    omega)
  rw [List.length_range]
  simp -implicitDefEqProofs [passP]
theorem heard_by_ok (h : RR L r xs) {c : Int} (h0 : 0 ≤ c) (h1 : c < L) {T : Nat} (hT : (T : Int) ≤ 1000000000000000000) : f_heard_by [rgD L r, row xs, .int c, .int (T : Nat)] M = .ok (.int (passP L r xs c T)) M := by
  show runDef (tbl T_heard_by) 4 b_heard_by _ M = _
  rw [run_eq]
  have e4 : f_passed_by [rgD L r, row xs, .int c, .int (T : Nat)] M = .ok (.int (passP L r xs c T)) M := passed_by_ok h hT
  have e5 : f_need_moment [.int (T : Nat)] M = .ok .non M := need_moment_ok ⟨by omega, hT⟩
  simp -implicitDefEqProofs [b_heard_by, e4, e5, need_row_ok h.ring h.good, need_cell_ok h.ring h0 h1]
end Gc
end
section
set_option autoImplicit false
set_option linter.all false
set_option maxRecDepth 100000
namespace Gc
open PySem Mi
variable {M M' M2 : Mst}
/-! ### dice -/
def Dice (n : Nat) (M : Mst) : Prop := ∃ a b : Int, M[n]? = some (.lst [.int a, .int b])
def Rolled (n : Nat) (M M' : Mst) : Prop := ∃ a b : Int, M' = M.set n (.lst [.int a, .int b])
theorem Dice.lt {n : Nat} (h : Dice n M) : n < M.length := by
  obtain ⟨a, b, h⟩ := h
  exact (List.getElem?_eq_some_iff.mp h).1
theorem Dice.roll {n : Nat} (h : Dice n M) (q : Rolled n M M') : Dice n M' := by
  obtain ⟨a, b, rfl⟩ := q
  exact ⟨a, b, by rw [List.getElem?_set_self h.lt]⟩
theorem Rolled.trans {n : Nat} (h : Rolled n M M') (q : Rolled n M' M2) : Rolled n M M2 := by
  obtain ⟨a, b, rfl⟩ := h
  obtain ⟨a', b', rfl⟩ := q
  exact ⟨a', b', by rw [List.set_set]⟩
theorem Rolled.same {n : Nat} (h : Dice n M) : Rolled n M M := by
  obtain ⟨a, b, h⟩ := h
  refine ⟨a, b, ?_⟩
  obtain ⟨h1, h2⟩ := List.getElem?_eq_some_iff.mp h
  rw [← h2, List.set_getElem_self]
theorem Rolled.other {n m : Nat} (h : Rolled n M M') (hm : m ≠ n) : M'[m]? = M[m]? := by
  obtain ⟨a, b, rfl⟩ := h
  rw [List.getElem?_set_ne (Ne.symm hm)]
theorem Rolled.len {n : Nat} (h : Rolled n M M') : M'.length = M.length := by
  obtain ⟨a, b, rfl⟩ := h
  rw [List.length_set]
theorem log_lt {i : Int} {k : Nat} (h : i.natAbs < 2 ^ k) (hk : 0 < k) : i.natAbs.log2 < k := by
  by_cases z : i.natAbs = 0
  · rw [z]
    exact hk
  · exact (Nat.log2_lt z).mpr h
theorem mul_mid {i j : Int} (h : i.natAbs < 2 ^ 300) (h2 : j.natAbs < 2 ^ 300) : binD .mul (.int i) (.int j) = some (.int (i * j)) := by
  have h3 := log_lt h (by decide)
  have h4 := log_lt h2 (by decide)
  have h5 : i.natAbs.log2 + j.natAbs.log2 < 1000000 := by omega
  have : mulOk i j = true := by
    unfold mulOk
    rw [decide_eq_true (p := i.natAbs.log2 + j.natAbs.log2 < 1000000) h5, Bool.or_true]
  simp [binD, mulD, this]
theorem mod_lt300 {i j : Int} (h : 0 < j) (h2 : j < 2 ^ 300) : (i % j).natAbs < 2 ^ 300 := by
  have h3 := Int.emod_nonneg i (show j ≠ 0 by omega)
  have h4 := Int.emod_lt_of_pos i h
  omega
theorem drawn_gen {Φ : Fs} {A B P P2 Q : Int} (hA : 0 < A ∧ A < 2 ^ 64) (hB : 0 < B ∧ B < 2 ^ 64) (hP : 0 < P ∧ P < 2 ^ 130) (hP2 : 0 < P2 ∧ P2 < 2 ^ 130) (hQ : 0 < Q ∧ Q < 2 ^ 64) (c k : Int) : ∃ v, runDef Φ 3 [.set 2 (.bin .mod (.bin .add (.bin .mul (.var 0) (.int A)) (.bin .mul (.bin .add (.var 1) (.int 1)) (.int B))) (.int P)), .set 2 (.bin .mod (.bin .mul (.var 2) (.var 2)) (.int P2)), .set 2 (.bin .mul (.bin .mul (.bin .add (.bin .mod (.var 2) (.int Q)) (.int 1)) (.bin .add (.bin .fdiv (.var 2) (.int Q)) (.int 1))) (.var 2)), .ret (.bin .mod (.var 2) (.int P))] [.int c, .int k] M = .ok (.int v) M ∧ 0 ≤ v := by
  rw [run_eq]
  have e1 : binD .mul (.int c) (.int A) = some (.int (c * A)) := mul_small' (by omega) (by omega)
  have e2 : binD .mul (.int (k + 1)) (.int B) = some (.int ((k + 1) * B)) := mul_small' (by omega) (by omega)
  have e3 : ∀ i, binD .mod (.int i) (.int P) = some (.int (i % P)) := fun i => mod_ints hP.1
  have e4 : ∀ i, binD .mod (.int i) (.int P2) = some (.int (i % P2)) := fun i => mod_ints hP2.1
  have e5 : ∀ i, binD .mod (.int i) (.int Q) = some (.int (i % Q)) := fun i => mod_ints hQ.1
  have e6 : ∀ i, binD .fdiv (.int i) (.int Q) = some (.int (i / Q)) := fun i => fdiv_small hQ.1 (by omega)
  have g : ∀ i, 0 ≤ i % P ∧ i % P < P := fun i => ⟨Int.emod_nonneg i (by omega), Int.emod_lt_of_pos i hP.1⟩
  have g2 : ∀ i, 0 ≤ i % P2 ∧ i % P2 < P2 := fun i => ⟨Int.emod_nonneg i (by omega), Int.emod_lt_of_pos i hP2.1⟩
  have g3 : ∀ i, 0 ≤ i % Q ∧ i % Q < Q := fun i => ⟨Int.emod_nonneg i (by omega), Int.emod_lt_of_pos i hQ.1⟩
  generalize hx : (c * A + (k + 1) * B) % P = x
  have hx2 := g (c * A + (k + 1) * B)
  rw [hx] at hx2
  have e7 : binD .mul (.int x) (.int x) = some (.int (x * x)) := mul_mid (by omega) (by omega)
  generalize hy : (x * x) % P2 = y
  have hy2 := g2 (x * x)
  rw [hy] at hy2
  have h1 := g3 y
  have h2 : 0 ≤ y / Q := Int.ediv_nonneg hy2.1 (by omega)
  have h3 : y / Q ≤ y := Int.ediv_le_self _ hy2.1
  have e8 : binD .mul (.int (y % Q + 1)) (.int (y / Q + 1)) = some (.int ((y % Q + 1) * (y / Q + 1))) := mul_mid (by omega) (by omega)
  generalize hz : (y % Q + 1) * (y / Q + 1) = z
  have h4 : 0 ≤ z ∧ z < 2 ^ 200 := by
    rw [← hz]
    refine ⟨Int.mul_nonneg (by omega) (by omega), ?_⟩
    have a1 : (y % Q + 1) * (y / Q + 1) ≤ 2 ^ 65 * (y / Q + 1) := Int.mul_le_mul_of_nonneg_right (by omega) (by omega)
    omega
  rw [hz] at e8
  have e9 : binD .mul (.int z) (.int y) = some (.int (z * y)) := mul_mid (by omega) (by omega)
  refine ⟨(z * y) % P, ?_, (g _).1⟩
  simp -implicitDefEqProofs [e1, e2, e3, e4, e5, e6, e7, e8, e9, hx, hy]
theorem drawn_ok (c k : Int) : ∃ v, f__law_drawn [.int c, .int k] M = .ok (.int v) M ∧ 0 ≤ v := drawn_gen (by decide) (by decide) (by decide) (by decide) (by decide) c k
end Gc
end
section
set_option autoImplicit false
set_option linter.all false
set_option maxRecDepth 100000
namespace Gc
open PySem Mi
variable {M M' M2 : Mst}
theorem sub_ref0 {n : Nat} {a b : Int} (h : M[n]? = some (.lst [.int a, .int b])) : subD M (.ref n) (.int 0) = some (.int a) := by
  simp only [subD, h]
  rfl
theorem sub_ref1 {n : Nat} {a b : Int} (h : M[n]? = some (.lst [.int a, .int b])) : subD M (.ref n) (.int 1) = some (.int b) := by
  simp only [subD, h]
  rfl
@[simp] theorem ix2_0 : L2.ixN (0 + 1 + 1) 0 = some 0 := rfl
@[simp] theorem ix2_1 : L2.ixN (0 + 1 + 1) 1 = some 1 := rfl
theorem roll_ok {n : Nat} (hd : Dice n M) {m : Int} (h0 : 0 < m) (h1 : m < 2 ^ 64) : ∃ v M', f__law_roll [.ref n, .int m] M = .ok (.int v) M' ∧ 0 ≤ v ∧ v < m ∧ Rolled n M M' := by
  have hn := hd.lt
  obtain ⟨a, b, hd⟩ := hd
  obtain ⟨K, hK⟩ : ∃ K, binD .pow (.int 10) (.int 18) = some (.int K) := ⟨_, rfl⟩
  have s0 := sub_ref0 hd
  have s1 := sub_ref1 hd
  have g : ∀ i, 0 ≤ i % m ∧ i % m < m := fun i => ⟨Int.emod_nonneg i (by omega), Int.emod_lt_of_pos i h0⟩
  have e1 : ∀ i, binD .mod (.int i) (.int m) = some (.int (i % m)) := fun i => mod_ints h0
  have e2 : ∀ i, binD .fdiv (.int i) (.int m) = some (.int (i / m)) := fun i => fdiv_small h0 (by omega)
  have e3 : ∀ i, binD .fdiv (.int i) (.int 8) = some (.int (i / 8)) := fun i => fdiv_small (by omega) (by omega)
  by_cases q : K ≤ a
  · refine ⟨a % m, _, ?_, (g a).1, (g a).2, a / m, b, rfl⟩
    show runDef (tbl T__law_roll) 3 b__law_roll _ M = _
    rw [run_eq]
    simp -implicitDefEqProofs [b__law_roll, s0, hK, q, e1, e2, hd]
  · have hs : (M.set n (.lst [.int a, .int (b + 1)]))[n]? = some (.lst [.int a, .int (b + 1)]) := List.getElem?_set_self hn
    have t0 := sub_ref0 hs
    have t1 := sub_ref1 hs
    obtain ⟨v, hv, hv0⟩ := drawn_ok (M := M.set n (.lst [.int a, .int (b + 1)])) a (b + 1)
    refine ⟨v / 8 % m, M.set n (.lst [.int a, .int (b + 1)]), ?_, (g _).1, (g _).2, a, b + 1, rfl⟩
    show runDef (tbl T__law_roll) 3 b__law_roll _ M = _
    rw [run_eq]
    simp -implicitDefEqProofs [b__law_roll, s0, s1, hK, q, hd, t0, t1, hv, e1, e3]
theorem any_ring_ok {n : Nat} (hd : Dice n M) {hi : Int} (h4 : 4 ≤ hi) (h24 : hi ≤ 24) : ∃ L r M', f__law_any_ring [.ref n, .int hi] M = .ok (rgD L r) M' ∧ Ring L r ∧ L ≤ hi ∧ Rolled n M M' := by
  obtain ⟨v, M1, e1, v0, v1, r1⟩ := roll_ok hd (m := hi - 3) (by omega) (by omega)
  obtain ⟨u, M2, e2, u0, u1, r2⟩ := roll_ok (hd.roll r1) (m := 3) (by omega) (by omega)
  refine ⟨4 + v, 1 + u, M2, ?_, ⟨⟨by omega, by omega⟩, ⟨by omega, by omega⟩⟩, by omega, r1.trans r2⟩
  show runDef (tbl T__law_any_ring) 2 b__law_any_ring _ M = _
  rw [run_eq]
  simp -implicitDefEqProofs [b__law_any_ring, e1, e2]
/-- a comprehension whose test rolls -/
theorem compD_roll {n : Nat} {f : D → Mst → R (Option D)} : ∀ (ks : List Int) (M : Mst), Dice n M → (∀ k ∈ ks, ∀ M, Dice n M → ∃ (b : Bool) (M' : Mst), f (.int k) M = .ok (if b then some (.int k) else none) M' ∧ Rolled n M M') → ∃ ys M', compD f (ks.map .int) M = .ok (ys.map .int) M' ∧ List.Sublist ys ks ∧ Rolled n M M'
  | [], M, hd, _ => ⟨[], M, rfl, .slnil, Rolled.same hd⟩
  | k :: ks, M, hd, h => by
    obtain ⟨b, M1, e1, r1⟩ := h k (by simp) M hd
    obtain ⟨ys, M2, e2, s, r2⟩ := compD_roll ks M1 (hd.roll r1) fun k hk => h k (by simp [hk])
    refine ⟨if b then k :: ys else ys, M2, ?_, ?_, r1.trans r2⟩
    · rw [List.map_cons]
      unfold compD
      rw [e1]
      simp only [bind_ok_, e2]
      cases b <;> rfl
    · cases b
      · exact s.cons _
      · exact s.cons_cons _
theorem rngI_int {m : Int} : rngI 0 m = ((List.range m.toNat).map fun i : Nat => (i : Int)).map D.int := by
  unfold rngI
  rw [List.map_map]
  simp
theorem mem_rng {m k : Int} : k ∈ (List.range m.toNat).map (fun i : Nat => (i : Int)) ↔ 0 ≤ k ∧ k < m := by
  rw [List.mem_map]
  constructor
  · rintro ⟨i, hi, rfl⟩
    have := List.mem_range.mp hi
    omega
  · rintro ⟨h0, h1⟩
    exact ⟨k.toNat, List.mem_range.mpr (by omega), by omega⟩
theorem mem_nub : ∀ {xs : List Int} {k : Int}, k ∈ nubI xs ↔ k ∈ xs
  | [], k => Iff.rfl
  | x :: xs, k => by
    unfold nubI
    split
    · rename_i h
      rw [mem_nub, List.mem_cons]
      refine ⟨.inr, fun q => q.elim (fun e => ?_) id⟩
      subst e
      exact mem_nub.mp h
    · rw [List.mem_cons, List.mem_cons, mem_nub]
theorem nub_nodup : ∀ (xs : List Int), (nubI xs).Nodup
  | [] => List.nodup_nil
  | x :: xs => by
    unfold nubI
    split
    · exact nub_nodup xs
    · rename_i h
      exact List.nodup_cons.mpr ⟨h, nub_nodup xs⟩
theorem sset_row {L : Int} {ys : List Int} (h : ys ≠ []) (hm : ∀ y ∈ ys, 0 ≤ y ∧ y < L) : Gm.Row L (sortI (nubI ys)) := by
  have mem : ∀ k, k ∈ sortI (nubI ys) ↔ k ∈ ys := fun k => by
    rw [srt_same, (Gm.srt_perm _).mem_iff, mem_nub]
  refine ⟨fun e => ?_, Gm.srt_lt (nub_nodup ys), fun k hk => hm k ((mem k).mp hk)⟩
  obtain ⟨y, hy⟩ := List.exists_mem_of_ne_nil ys h
  have := (mem y).mpr hy
  rw [e] at this
  cases this
end Gc
end
section
set_option autoImplicit false
set_option linter.all false
set_option maxRecDepth 100000
namespace Gc
open PySem Mi
variable {M M' M2 : Mst} {L r : Int}
theorem act_at {v : Int} (h0 : 0 ≤ v) (h1 : v < 4) : ∃ w, subD M (.lst [.int 2, .int 3, .int 5, .int 4]) (.int v) = some (.int w) ∧ 0 < w ∧ w < 2 ^ 64 := by
  rcases (show v = 0 ∨ v = 1 ∨ v = 2 ∨ v = 3 by omega) with rfl | rfl | rfl | rfl
  · exact ⟨2, rfl, by decide, by decide⟩
  · exact ⟨3, rfl, by decide, by decide⟩
  · exact ⟨5, rfl, by decide, by decide⟩
  · exact ⟨4, rfl, by decide, by decide⟩
theorem fil_ints {f : D → Mst → R (Option D)} {p : Int → Bool} {M : Mst} {ks : List Int} (h : ∀ k ∈ ks, f (.int k) M = .ok (if p k then some (.int k) else none) M) : compD f (ks.map .int) M = .ok ((ks.filter p).map .int) M := compD_filI (h := D.int) (g := D.int) h
theorem ne_nil (ys : List Int) : cmpD .ne (.lst (ys.map .int)) (.lst []) = some (!decide (ys = [])) := by
  rw [ne_of (by simp [D.okd]) rfl, show D.lst [] = .lst (([] : List Int).map .int) from rfl, eqb_ints]
theorem sset_ok {ys : List Int} (h : ys.length < 64) : b1D .sset (.lst (ys.map .int)) = some (.lst ((sortI (nubI ys)).map .int)) := by
  simp [b1D, h]
/-- the last two rows -/
theorem any_row_end {n : Nat} {L r act : Int} (hL : 0 < L ∧ L ≤ 24) {s5 : Slot} {ys : List Int} (hd : Dice n M) (hy : ∀ y ∈ ys, 0 ≤ y ∧ y < L) (hl : ys.length < 64) : ∃ xs M', finD (MS.dens (tbl T__law_any_row) [.set 2 (.ite (.cmp .ne (.var 2) (.lst .nil)) (.var 2) (.lst (.cons (.call 33 (.cons (.var 0) (.cons (.var 4) .nil))) .nil))), .ret (.b1 .tuple (.b1 .sset (.var 2)))] [.v (.ref n), .v (rgD L r), .v (.lst (ys.map .int)), .v (.int act), .v (.int L), s5] M) = .ok (row xs) M' ∧ Gm.Row L xs ∧ Rolled n M M' := by
  by_cases q : ys = []
  · obtain ⟨v, M1, e1, v0, v1, r1⟩ := roll_ok hd (m := L) (by omega) (by omega)
    refine ⟨sortI (nubI [v]), M1, ?_, sset_row (by simp) (by simp; omega), r1⟩
    subst q
    have e2 := ne_nil []
    have e3 := sset_ok (ys := [v]) (by simp)
    simp only [List.map_nil, List.map_cons] at e2 e3 ⊢
    simp -implicitDefEqProofs [e2, e1, e3, row]
  · refine ⟨sortI (nubI ys), M, ?_, sset_row q hy, Rolled.same hd⟩
    simp -implicitDefEqProofs [ne_nil, q, sset_ok hl, row]
theorem fin_step {Φ : Fs} {s : MS} {ss : List MS} {ρ ρ' : En} {M M' : Mst} {Z : R D} (h : MS.den Φ s ρ M = .nx ρ' M') (k : finD (MS.dens Φ ss ρ' M') = Z) : finD (MS.dens Φ (s :: ss) ρ M) = Z := by
  rw [dens_cons, h, seq_nx_]
  exact k
theorem dens_step {Φ : Fs} {s : MS} {ss : List MS} {ρ ρ' : En} {M M' : Mst} {Z : SR} (h : MS.den Φ s ρ M = .nx ρ' M') (k : MS.dens Φ ss ρ' M' = Z) : MS.dens Φ (s :: ss) ρ M = Z := by
  rw [dens_cons, h, seq_nx_]
  exact k
def cfF (Φ : Fs) (elt : ME) (t : List Nat) (c : ME) (ρ : En) : D → Mst → R (Option D) := fun x M => match asg (wipE ρ t) t x with
  | some ρ => (c.den Φ ρ M).quiet.bind fun k M => boolOf k M fun k => if k then (elt.den Φ ρ M).quiet.bind fun y M => .ok (some y) M else .ok none M
  | none => .stuck
theorem compIf_cf {Φ : Fs} {elt : ME} {t : List Nat} {it : MI} {c : ME} {ρ : En} {M : Mst} : ME.den Φ (.compIf elt t it c) ρ M = (it.den Φ ρ M).bind fun xs M => (compD (cfF Φ elt t c ρ) xs M).bind fun ys M => .ok (.lst ys) M := rfl
def elF (Φ : Fs) (elt : ME) (t : List Nat) (ρ : En) : D → Mst → R (Option D) := fun x M => match asg (wipE ρ t) t x with
  | some ρ => (elt.den Φ ρ M).quiet.bind fun y M => .ok (some y) M
  | none => .stuck
theorem comp_el {Φ : Fs} {elt : ME} {t : List Nat} {it : MI} {ρ : En} {M : Mst} : ME.den Φ (.comp elt t it) ρ M = (it.den Φ ρ M).bind fun xs M => (compD (elF Φ elt t ρ) xs M).bind fun ys M => .ok (.lst ys) M := rfl
theorem any_row_found {n : Nat} {L r act : Int} (hL : 4 ≤ L ∧ L ≤ 24) (a0 : 0 ≤ act) (a1 : act < 4) (hd : Dice n M) : ∃ ys M', MS.den (tbl T__law_any_row) (.set 2 (.compIf (.var 5) [5] (.rng (.var 4)) (.cmp .eq (.call 33 (.cons (.var 0) (.cons (.sub (.lst (.cons (.int 2) (.cons (.int 3) (.cons (.int 5) (.cons (.int 4) .nil))))) (.var 3)) .nil))) (.int 0)))) [.v (.ref n), .v (rgD L r), .no, .v (.int act), .v (.int L), .no] M = .nx [.v (.ref n), .v (rgD L r), .v (.lst (ys.map .int)), .v (.int act), .v (.int L), .no] M' ∧ List.Sublist ys ((List.range L.toNat).map fun i : Nat => (i : Int)) ∧ Rolled n M M' := by
  obtain ⟨w, ew, w0, w1⟩ := act_at (M := []) a0 a1
  have ew : ∀ M, subD M (.lst [.int 2, .int 3, .int 5, .int 4]) (.int act) = some (.int w) := fun _ => ew
  have e3 : rngOk 0 L = true := rngOk_0 (by omega) (by omega)
  obtain ⟨ys, M2, ey, sub, r2⟩ := compD_roll (n := n) (f := cfF (tbl T__law_any_row) (.var 5) [5] (.cmp .eq (.call 33 (.cons (.var 0) (.cons (.sub (.lst (.cons (.int 2) (.cons (.int 3) (.cons (.int 5) (.cons (.int 4) .nil))))) (.var 3)) .nil))) (.int 0)) [.v (.ref n), .v (rgD L r), .no, .v (.int act), .v (.int L), .no]) ((List.range L.toNat).map fun i : Nat => (i : Int)) M hd (fun k hk M hd => by
      obtain ⟨v, M', e, v0, v1, r'⟩ := roll_ok hd (m := w) w0 w1
      refine ⟨decide (v = 0), M', ?_, r'⟩
      by_cases c : v = 0 <;> simp -implicitDefEqProofs [cfF, ew, e, c])
  refine ⟨ys, M2, ?_, sub, r2⟩
  have ei : MI.den (tbl T__law_any_row) (.rng (.var 4)) [.v (.ref n), .v (rgD L r), .no, .v (.int act), .v (.int L), .no] M = .ok (((List.range L.toNat).map fun i : Nat => (i : Int)).map D.int) M := by
    rw [← rngI_int]
    simp -implicitDefEqProofs [e3]
  rw [den_set, compIf_cf, ei]
  simp only [bind_ok_]
  rw [ey]
  rfl
theorem any_row_more {n : Nat} {L r : Int} {ys : List Int} (hL : 4 ≤ L ∧ L ≤ 24) (hd : Dice n M) (hy : ∀ y ∈ ys, 0 ≤ y ∧ y < L) (hl : ys.length ≤ 24) : ∃ (zs : List Int) (M' : Mst), MS.den (tbl T__law_any_row) (.set 2 (.bin .add (.lrg (.rng (.bin .add (.bin .fdiv (.call 33 (.cons (.var 0) (.cons (.var 4) .nil))) (.int 2)) (.int 1)))) (.compIf (.var 5) [5] (.seq (.var 2)) (.cmp .gt (.bin .mul (.int 2) (.var 5)) (.var 4))))) [.v (.ref n), .v (rgD L r), .v (.lst (ys.map .int)), .v (.int 3), .v (.int L), .no] M = .nx [.v (.ref n), .v (rgD L r), .v (.lst (zs.map .int)), .v (.int 3), .v (.int L), .no] M' ∧ (∀ y ∈ zs, 0 ≤ y ∧ y < L) ∧ zs.length < 64 ∧ Rolled n M M' := by
  obtain ⟨v, M3, e4, v0, v1, r3⟩ := roll_ok hd (m := L) (by omega) (by omega)
  have d1 : binD .fdiv (.int v) (.int 2) = some (.int (v / 2)) := fdiv_small (by omega) (by omega)
  have e5 : rngOk 0 (v / 2 + 1) = true := rngOk_0 (by omega) (by omega)
  have m1 : ∀ k, binD .mul (.int 2) (.int k) = some (.int (2 * k)) := fun k => mul_small (by omega) (by omega)
  have fl := List.length_filter_le (fun k => decide (L < 2 * k)) ys
  refine ⟨(List.range (v / 2 + 1).toNat).map (fun i : Nat => (i : Int)) ++ ys.filter fun k => decide (L < 2 * k), M3, ?_, fun y hy' => ?_, by rw [List.length_append, List.length_map, List.length_range]; omega, r3⟩
  · have ea : ME.den (tbl T__law_any_row) (.lrg (.rng (.bin .add (.bin .fdiv (.call 33 (.cons (.var 0) (.cons (.var 4) .nil))) (.int 2)) (.int 1)))) [.v (.ref n), .v (rgD L r), .v (.lst (ys.map .int)), .v (.int 3), .v (.int L), .no] M = .ok (.lst (((List.range (v / 2 + 1).toNat).map fun i : Nat => (i : Int)).map D.int)) M3 := by
      rw [← rngI_int]
      simp -implicitDefEqProofs [e4, d1, e5]
    have eb : ME.den (tbl T__law_any_row) (.compIf (.var 5) [5] (.seq (.var 2)) (.cmp .gt (.bin .mul (.int 2) (.var 5)) (.var 4))) [.v (.ref n), .v (rgD L r), .v (.lst (ys.map .int)), .v (.int 3), .v (.int L), .no] M3 = .ok (.lst ((ys.filter fun k => decide (L < 2 * k)).map .int)) M3 := by
      have ei : MI.den (tbl T__law_any_row) (.seq (.var 2)) [.v (.ref n), .v (rgD L r), .v (.lst (ys.map .int)), .v (.int 3), .v (.int L), .no] M3 = .ok (ys.map D.int) M3 := rfl
      rw [den_compIf, ei]
      simp only [bind_ok_]
      rw [fil_ints (p := fun k => decide (L < 2 * k))]
      · rfl
      · intro k hk
        by_cases c : L < 2 * k <;> simp -implicitDefEqProofs [m1, c]
    rw [den_set, den_bin, ea]
    simp only [bind_ok_]
    rw [eb]
    simp only [bind_ok_]
    rw [add_lsts (by
      rw [List.length_map, List.length_map, List.length_map, List.length_range]
      unfold line
      omega)]
    rw [List.map_append]
    rfl
  · rcases List.mem_append.mp hy' with h | h
    · have := mem_rng.mp h
      omega
    · exact hy y (List.mem_filter.mp h).1
theorem any_row_ok {n : Nat} (hd : Dice n M) (h : Ring L r) : ∃ xs M', f__law_any_row [.ref n, rgD L r] M = .ok (row xs) M' ∧ Gm.Row L xs ∧ Rolled n M M' := by
  have hL := h.L
  obtain ⟨act, M1, e1, a0, a1, r1⟩ := roll_ok hd (m := 4) (by omega) (by omega)
  have hd1 := hd.roll r1
  obtain ⟨ys, M2, e2, sub, r2⟩ := any_row_found (r := r) hL a0 a1 hd1
  have hy : ∀ y ∈ ys, 0 ≤ y ∧ y < L := fun y hy => mem_rng.mp (sub.subset hy)
  have hyl : ys.length ≤ 24 := by
    have := sub.length_le
    rw [List.length_map, List.length_range] at this
    omega
  have hd2 := hd1.roll r2
  show ∃ xs M', finD (MS.dens (tbl T__law_any_row) b__law_any_row [.v (.ref n), .v (rgD L r), .no, .no, .no, .no] M) = .ok (row xs) M' ∧ _
  by_cases q : act = 3
  · subst q
    obtain ⟨zs, M3, e3, hz, hzl, r3⟩ := any_row_more (r := r) hL hd2 hy hyl
    obtain ⟨xs, M4, e4, R, r4⟩ := any_row_end (r := r) (act := 3) (s5 := .no) (show 0 < L ∧ L ≤ 24 by omega) (hd2.roll r3) hz hzl
    refine ⟨xs, M4, ?_, R, ((r1.trans r2).trans r3).trans r4⟩
    unfold b__law_any_row
    refine fin_step (ρ' := [.v (.ref n), .v (rgD L r), .no, .v (.int 3), .v (.int L), .no]) (M' := M1) (by simp -implicitDefEqProofs [e1]) ?_
    refine fin_step e2 ?_
    refine fin_step (ρ' := [.v (.ref n), .v (rgD L r), .v (.lst (zs.map .int)), .v (.int 3), .v (.int L), .no]) (M' := M3) ?_ e4
    rw [den_cond]
    simp -implicitDefEqProofs only [den_cmp, den_var_, den_int, bind_ok_, eq_ints, of_some_, toS_ok_, condS_bl, List.getElem?_cons_succ, List.getElem?_cons_zero, Option.map_some, decide_true, if_true]
    exact dens_step e3 rfl
  · obtain ⟨xs, M4, e4, R, r4⟩ := any_row_end (r := r) (act := act) (s5 := .no) (show 0 < L ∧ L ≤ 24 by omega) hd2 hy (by omega)
    refine ⟨xs, M4, ?_, R, (r1.trans r2).trans r4⟩
    unfold b__law_any_row
    refine fin_step (ρ' := [.v (.ref n), .v (rgD L r), .no, .v (.int act), .v (.int L), .no]) (M' := M1) (by simp -implicitDefEqProofs [e1]) ?_
    refine fin_step e2 ?_
    refine fin_step (ρ' := [.v (.ref n), .v (rgD L r), .v (.lst (ys.map .int)), .v (.int act), .v (.int L), .no]) (M' := M2) ?_ e4
    simp -implicitDefEqProofs [q]
end Gc
end
section
set_option autoImplicit false
set_option linter.all false
set_option maxRecDepth 100000
namespace Gc
open PySem Mi
open Gm (nextsP gapsP movedP nextP rowT Runs Backs xx ext bb wm rowOf Row sm)
variable {M M' M2 : Mst} {L r : Int} {xs : List Int}
/-! ### the script's draws -/
def scD (ns : List Int) : D := .scr (ns.map .int)
theorem scr_nil (ns : List Int) : cmpD .eq (scD ns) (.lst []) = some (decide (ns = [])) := by
  rw [eq_of (by simp [scD, D.okd]) rfl]
  unfold scD
  simp only [eqb]
  cases ns <;> simp [eqbs]
theorem cell_ok (ns : List Int) {k : Int} (hk : 0 ≤ k) (hl : ns.length ≤ 63) : ∃ v, f__law_cell [scD ns, .int k] M = .ok (.int v) M := by
  have m1 : binD .mul (.int k) (.int 7919) = some (.int (k * 7919)) := mul_small' (by omega) (by omega)
  by_cases q : ns = []
  · refine ⟨k * 7919, ?_⟩
    show runDef (tbl T__law_cell) 2 b__law_cell _ M = _
    rw [run_eq]
    simp -implicitDefEqProofs [b__law_cell, scr_nil, q, m1]
  · have hp := List.length_pos_iff.mpr q
    have g0 := Int.emod_nonneg k (show (ns.length : Int) ≠ 0 by omega)
    have g1 := Int.emod_lt_of_pos k (show 0 < (ns.length : Int) by omega)
    have e1 : binD .mod (.int k) (.int ns.length) = some (.int (k % ns.length)) := mod_ints (by omega)
    have e2 : binD .fdiv (.int k) (.int ns.length) = some (.int (k / ns.length)) := fdiv_small (by omega) (by omega)
    have e3 : b1D .len (scD ns) = some (.int ns.length) := by simp [b1D, scD]
    have e4 : subD M (scD ns) (.int (k % ns.length)) = some (.int (ns.getD (k % ns.length).toNat 0)) := by
      show L2.atI (ns.map D.int) _ = _
      rw [atI_ok g0 (by rw [List.length_map]; exact g1), List.getElem?_map, List.getElem?_eq_getElem (by omega), List.getD_eq_getElem?_getD, List.getElem?_eq_getElem (by omega)]
      rfl
    have m2 : binD .mul (.int (k / ns.length)) (.int 104729) = some (.int (k / ns.length * 104729)) := mul_small' (by omega) (by omega)
    refine ⟨ns.getD (k % ns.length).toNat 0 + k / ns.length * 104729, ?_⟩
    show runDef (tbl T__law_cell) 2 b__law_cell _ M = _
    rw [run_eq]
    simp -implicitDefEqProofs [b__law_cell, scr_nil, q, e1, e2, e3, e4, m2, -List.getD_eq_getElem?_getD]
theorem compD_new {f : D → Mst → R (Option D)} : ∀ (ks : List Int) (M : Mst), (∀ k ∈ ks, ∀ M, ∃ v, f (.int k) M = .ok (some (.ref M.length)) (M ++ [.lst [.int v, .int 0]])) → ∃ M', compD f (ks.map .int) M = .ok ((List.range ks.length).map fun i => .ref (M.length + i)) M' ∧ M'.length = M.length + ks.length ∧ (∀ n, n < M.length → M'[n]? = M[n]?) ∧ ∀ n, M.length ≤ n → n < M'.length → Dice n M'
  | [], M, _ => ⟨M, rfl, rfl, fun _ _ => rfl, fun n h1 h2 => by omega⟩
  | k :: ks, M, h => by
    obtain ⟨v, e1⟩ := h k (by simp) M
    obtain ⟨M2, e2, l2, s2, d2⟩ := compD_new ks (M ++ [.lst [.int v, .int 0]]) fun k hk => h k (by simp [hk])
    rw [List.length_append, List.length_singleton] at l2 s2 d2 e2
    refine ⟨M2, ?_, by rw [l2, List.length_cons]; omega, fun n hn => ?_, fun n h1 h2 => ?_⟩
    · rw [List.map_cons]
      unfold compD
      rw [e1]
      simp only [bind_ok_, e2]
      rw [List.length_cons, List.range_succ_eq_map, List.map_cons, List.map_map]
      simp
      intro a _
      omega
    · rw [s2 n (by omega), List.getElem?_append_left hn]
    · by_cases q : n = M.length
      · subst q
        refine ⟨v, 0, ?_⟩
        rw [s2 _ (by omega), List.getElem?_append_right (Nat.le_refl _), Nat.sub_self]
        rfl
      · exact d2 n (by omega) h2
theorem rounds_ok (ns : List Int) (hl : ns.length ≤ 63) {hi : Int} (h0 : 0 ≤ hi) (h1 : hi ≤ 100) : ∃ m M', f__law_rounds [scD ns, .int hi] [] = .ok (.lst ((List.range m).map .ref)) M' ∧ M'.length = m ∧ ∀ n, n < m → Dice n M' := by
  have e3 : b1D .len (scD ns) = some (.int ns.length) := by simp [b1D, scD]
  obtain ⟨u, hu, u0, u1⟩ : ∃ u : Int, b2D .min (.int hi) (.int ns.length) = some (.int u) ∧ 0 ≤ u ∧ u ≤ 100 := by
    simp only [b2D]
    refine ⟨_, rfl, ?_, ?_⟩ <;> split <;> omega
  obtain ⟨w, hw, w0, w1⟩ : ∃ w : Int, b2D .max (.int 1) (.int u) = some (.int w) ∧ 0 ≤ w ∧ w ≤ 100 := by
    simp only [b2D]
    refine ⟨_, rfl, ?_, ?_⟩ <;> split <;> omega
  have e4 : rngOk 0 w = true := rngOk_0 w0 (by omega)
  obtain ⟨M', e, l, _, d⟩ := compD_new (f := elF (tbl T__law_rounds) (.new (.cons (.call 32 (.cons (.var 0) (.cons (.var 2) .nil))) (.cons (.int 0) .nil))) [2] [.v (scD ns), .v (.int hi), .no]) ((List.range w.toNat).map fun i : Nat => (i : Int)) [] (fun k hk M => by
    obtain ⟨v, hv⟩ := cell_ok (M := M) ns (mem_rng.mp hk).1 hl
    refine ⟨v, ?_⟩
    simp -implicitDefEqProofs [elF, hv])
  rw [List.length_map, List.length_range] at e l
  simp only [List.length_nil, Nat.zero_add] at e l d
  refine ⟨w.toNat, M', ?_, l, fun n hn => d n (Nat.zero_le _) (by omega)⟩
  show runDef (tbl T__law_rounds) 3 b__law_rounds _ [] = _
  rw [run_eq]
  have ei : MI.den (tbl T__law_rounds) (.rng (.b2 .max (.int 1) (.b2 .min (.var 1) (.b1 .len (.var 0))))) [.v (scD ns), .v (.int hi), .no] [] = .ok (((List.range w.toNat).map fun i : Nat => (i : Int)).map D.int) [] := by
    rw [← rngI_int]
    simp -implicitDefEqProofs [e3, hu, hw, e4]
  unfold b__law_rounds
  rw [dens_cons, den_ret, comp_el]
  simp only [List.map_cons, List.map_nil, List.length_cons, List.length_nil, List.cons_append, List.nil_append]
  rw [show List.replicate (3 - (0 + 1 + 1)) Slot.no = [Slot.no] from rfl, ei]
  simp only [bind_ok_]
  rw [e]
  rfl
end Gc
end
section
set_option autoImplicit false
set_option linter.all false
set_option maxRecDepth 100000
namespace Gc
open PySem Mi
open Gm (nextsP gapsP movedP nextP rowT Runs Backs xx ext bb wm rowOf Row sm)
variable {M M' M2 : Mst} {L r : Int} {xs : List Int}
/-- spots: a list of numbers as a value -/
def spD (n : Nat) (f : Nat → Int) : D := .lst ((List.range n).map fun j => D.int (f j))
theorem spD_ints (n : Nat) (f : Nat → Int) : spD n f = .lst (((List.range n).map f).map .int) := by
  unfold spD
  rw [List.map_map]
  rfl
theorem enum_range (n : Nat) (f : Nat → Int) : enumD ((List.range n).map fun j => D.int (f j)) = (List.range n).map fun j => D.tup [.int (j : Nat), .int (f j)] := by
  unfold enumD
  refine List.ext_getElem (by simp) fun j h1 h2 => ?_
  simp
theorem sub_sp {n : Nat} {f : Nat → Int} {i : Int} (h0 : 0 ≤ i) (h1 : i < n) : subD M (spD n f) (.int i) = some (.int (f i.toNat)) := by
  show L2.atI ((List.range n).map fun j => D.int (f j)) i = _
  rw [atI_ok h0 (by rw [List.length_map, List.length_range]; exact h1), List.getElem?_map, List.getElem?_range (by omega)]
  rfl
theorem len_sp (n : Nat) (f : Nat → Int) : b1D .len (spD n f) = some (.int n) := by
  simp [b1D, spD]
theorem take_range (n j : Nat) (g : Nat → D) (h : j < n) : (List.range (j + 1)).map g = (List.range j).map g ++ [g j] := by
  rw [List.range_succ, List.map_append]
  rfl
theorem law_step_ok {n : Nat} {f : Nat → Int} (h : Ring L r) (hn : 0 < n) (hn2 : n ≤ 1000) (hf : ∀ j, j < n → f j < f (j + 1)) (hL : f n = f 0 + L) : f__law_step [rgD L r, spD n f] M = .ok (spD n fun j => min (f j + r) (f (j + 1) - 1)) M := by
  have hr := h.r
  show runDef (tbl T__law_step) 7 b__law_step _ M = _
  rw [run_eq]
  have e0 : MI.den (tbl T__law_step) (.enum (.var 1)) [.v (rgD L r), .v (spD n f), .own [], .no, .no, .no, .no] M = .ok ((List.range n).map fun j => D.tup [.int (j : Nat), .int (f j)]) M := by
    simp [spD, enum_range]
  unfold b__law_step
  simp only [List.map_cons, List.map_nil, List.length_cons, List.length_nil, List.cons_append, List.nil_append]
  rw [show List.replicate (7 - (0 + 1 + 1)) Slot.no = [Slot.no, .no, .no, .no, .no] from rfl]
  refine fin_step (ρ' := [.v (rgD L r), .v (spD n f), .own [], .no, .no, .no, .no]) (M' := M) (by simp) ?_
  rw [dens_cons, den_loop, e0, toS_ok_]
  generalize hz : forD _ _ _ _ = Z
  obtain ⟨⟨s3, s4, s5, s6⟩, rfl⟩ := forD_st (τ := Slot × Slot × Slot × Slot) hz (fun i k => [.v (rgD L r), .v (spD n f), .own ((List.range i).map fun j => D.int (min (f j + r) (f (j + 1) - 1))), k.1, k.2.1, k.2.2.1, k.2.2.2]) (fun _ _ => M) (.no, .no, .no, .no) rfl rfl (by
    rintro j x ⟨s3, s4, s5, s6⟩ hx
    obtain ⟨rfl, hj⟩ := range_at hx
    have hfx := hf x hj
    refine ⟨(.v (.int (x : Nat)), .v (.int (f x)), .v (.int (f (x + 1))), .v (.int (min (f x + r) (f (x + 1) - 1)))), ?_⟩
    rw [asg_two]
    simp only [List.set_cons_succ, List.set_cons_zero]
    refine dens_step (ρ' := [.v (rgD L r), .v (spD n f), .own ((List.range x).map fun j => D.int (min (f j + r) (f (j + 1) - 1))), .v (.int (x : Nat)), .v (.int (f x)), .v (.int (f (x + 1))), s6]) (M' := M) ?_ ?_
    · by_cases c : x + 1 < n
      · have c2 : (x : Int) + 1 < (n : Int) := by omega
        have e1 := sub_sp (M := M) (f := f) (n := n) (i := (x : Int) + 1) (by omega) c2
        rw [show ((x : Int) + 1).toNat = x + 1 by omega] at e1
        simp -implicitDefEqProofs [len_sp, c2, e1]
      · have c2 : ¬ (x : Int) + 1 < (n : Int) := by omega
        have e1 := sub_sp (M := M) (f := f) (n := n) (i := 0) (by omega) (by omega)
        rw [show (0 : Int).toNat = 0 from rfl] at e1
        have e2 : f (x + 1) = f 0 + L := by rw [show x + 1 = n by omega]; exact hL
        simp -implicitDefEqProofs [len_sp, c2, e1, e2]
    · refine dens_step (ρ' := [.v (rgD L r), .v (spD n f), .own ((List.range x).map fun j => D.int (min (f j + r) (f (j + 1) - 1))), .v (.int (x : Nat)), .v (.int (f x)), .v (.int (f (x + 1))), .v (.int (f x))]) (M' := M) (by simp) ?_
      let st : Nat → En := fun i => [.v (rgD L r), .v (spD n f), .own ((List.range x).map fun j => D.int (min (f j + r) (f (j + 1) - 1))), .v (.int (x : Nat)), .v (.int (f x)), .v (.int (f (x + 1))), .v (.int (f x + i))]
      refine dens_step (ρ' := st (min (f x + r) (f (x + 1) - 1) - f x).toNat) (M' := M) ?_ ?_
      · rw [den_whl, show ([.v (rgD L r), .v (spD n f), .own ((List.range x).map fun j => D.int (min (f j + r) (f (j + 1) - 1))), .v (.int (x : Nat)), .v (.int (f x)), .v (.int (f (x + 1))), .v (.int (f x))] : En) = st 0 by simp [st]]
        refine whileD_run st _ ?_ ?_ ?_ 0 1000000 (Nat.zero_le _) (by omega)
        · intro i hi
          have c1 : f x + (i : Int) - f x < r := by omega
          have c2 : f x + (i : Int) + 1 < f (x + 1) := by omega
          simp -implicitDefEqProofs only [st, den_and, den_cmp, den_bin, den_var_, den_sub, den_int, bind_ok_, sub_ints, add_ints, lt_ints, of_some_, Option.map_some, List.getElem?_cons_succ, List.getElem?_cons_zero, sub_rg1, boolOf_, c1, c2, decide_true, if_true]
        · intro i hi
          simp -implicitDefEqProofs [st]
          omega
        · by_cases c1 : f x + (((min (f x + r) (f (x + 1) - 1) - f x).toNat : Nat) : Int) - f x < r
          · have c2 : ¬ f x + (((min (f x + r) (f (x + 1) - 1) - f x).toNat : Nat) : Int) + 1 < f (x + 1) := by omega
            simp -implicitDefEqProofs only [st, den_and, den_cmp, den_bin, den_var_, den_sub, den_int, bind_ok_, sub_ints, add_ints, lt_ints, of_some_, Option.map_some, List.getElem?_cons_succ, List.getElem?_cons_zero, sub_rg1, boolOf_, c1, c2, decide_true, decide_false, if_true]
          · simp -implicitDefEqProofs only [st, den_and, den_cmp, den_bin, den_var_, den_sub, den_int, bind_ok_, sub_ints, add_ints, lt_ints, of_some_, Option.map_some, List.getElem?_cons_succ, List.getElem?_cons_zero, sub_rg1, boolOf_, c1, decide_false, if_false, Bool.false_eq_true]
      · have e7 : f x + (((min (f x + r) (f (x + 1) - 1) - f x).toNat : Nat) : Int) = min (f x + r) (f (x + 1) - 1) := by omega
        have ll : ((List.range x).map fun j => D.int (min (f j + r) (f (j + 1) - 1))).length < line := by
          rw [List.length_map, List.length_range]
          unfold line
          omega
        rw [take_range n x _ hj]
        rw [List.length_map, List.length_range] at ll
        simp -implicitDefEqProofs [st, e7, ll]
        omega)
  rw [List.length_range]
  simp -implicitDefEqProofs [spD]
/-! ### the walk -/
/-- where carts stand at t -/
def posD (L r : Int) (xs : List Int) (t : Nat) : D := spD xs.length (xx r (ext L xs) t)
theorem row_sp (xs : List Int) : D.lst (xs.map .int) = spD xs.length (ext L xs) := by
  rw [spD_ints, ← Gm.self_range]
theorem step_pos (h : RR L r xs) (t : Nat) : f__law_step [rgD L r, posD L r xs t] M = .ok (posD L r xs (t + 1)) M := by
  have R := Gm.xx_rg h.rg t
  have e0 := R.per 0
  rw [Nat.zero_add] at e0
  unfold posD
  rw [law_step_ok h.ring h.n0 h.few (fun j _ => R.inc j) e0]
  have e : (fun j => min (xx r (ext L xs) t j + r) (xx r (ext L xs) t (j + 1) - 1)) = xx r (ext L xs) (t + 1) := funext fun j => (Gm.xx_succ t j).symm
  rw [e]
theorem last_at {n : Nat} (g : Nat → D) : L2.atI ((List.range (n + 1)).map g) (-1) = some (g n) := by
  rw [atI_last (by simp)]
  simp
theorem walk_ok (h : RR L r xs) {m : Nat} (hm : m ≤ 1000000) : f__law_walk [rgD L r, row xs, .int (m : Nat)] M = .ok (.lst ((List.range (m + 1)).map (posD L r xs))) M := by
  show runDef (tbl T__law_walk) 5 b__law_walk _ M = _
  rw [run_eq]
  have e3 : rngOk 0 (m : Int) = true := rngOk_0 (by omega) (by omega)
  have e0 : MI.den (tbl T__law_walk) (.rng (.var 2)) [.v (rgD L r), .v (row xs), .v (.int (m : Nat)), .own [posD L r xs 0], .no] M = .ok ((List.range m).map fun i : Nat => D.int (i : Nat)) M := by
    rw [← rngI_nat]
    simp -implicitDefEqProofs [e3]
  have e1 : posD L r xs 0 = .lst (xs.map .int) := by
    rw [row_sp (L := L)]
    unfold posD
    rw [show xx r (ext L xs) 0 = ext L xs from funext fun j => Gm.xx_zero j]
  unfold b__law_walk
  simp only [List.map_cons, List.map_nil, List.length_cons, List.length_nil, List.cons_append, List.nil_append]
  rw [show List.replicate (5 - (0 + 1 + 1 + 1)) Slot.no = [Slot.no, .no] from rfl]
  refine fin_step (ρ' := [.v (rgD L r), .v (row xs), .v (.int (m : Nat)), .own [posD L r xs 0], .no]) (M' := M) (by simp [e1]) ?_
  rw [dens_cons, den_loop, e0, toS_ok_]
  generalize hz : forD _ _ _ _ = Z
  obtain ⟨s4, rfl⟩ := forD_st (τ := Slot) hz (fun i k => [.v (rgD L r), .v (row xs), .v (.int (m : Nat)), .own ((List.range (i + 1)).map (posD L r xs)), k]) (fun _ _ => M) .no rfl rfl (by
    rintro j x s4 hx
    obtain ⟨rfl, hj⟩ := range_at hx
    refine ⟨.v (.int (x : Nat)), ?_⟩
    have ll : ((List.range (x + 1)).map (posD L r xs)).length < line := by
      rw [List.length_map, List.length_range]
      unfold line
      omega
    have es : subD M (.lst ((List.range (x + 1)).map (posD L r xs))) (.int (-1)) = some (posD L r xs x) := last_at _
    rw [asg_one]
    rw [take_range (x + 1 + 1) (x + 1) (posD L r xs) (by omega)]
    generalize (List.range (x + 1)).map (posD L r xs) = Q at ll es ⊢
    simp -implicitDefEqProofs [es, step_pos h, ll])
  rw [List.length_range]
  simp -implicitDefEqProofs
end Gc
end
section
set_option autoImplicit false
set_option linter.all false
set_option maxRecDepth 100000
namespace Gc
open PySem Mi
open Gm (nextsP gapsP movedP nextP rowT Runs Backs xx ext bb wm rowOf Row sm)
variable {M M' M2 : Mst} {L r : Int} {xs : List Int}
/-! ### bits -/
theorem sum_sp (n : Nat) (f : Nat → Int) : b1D .sum (spD n f) = some (.int (sm n f)) := by
  rw [spD_ints, sum_ints, Gm.sum_range]
theorem atM1 {n : Nat} (g : Nat → D) : subD M (.lst ((List.range (n + 1)).map g)) (.int (-1)) = some (g n) := last_at g
theorem atM2 {n : Nat} (g : Nat → D) : subD M (.lst ((List.range (n + 2)).map g)) (.int (-2)) = some (g n) := by
  show L2.atI _ _ = _
  unfold L2.atI L2.ixN
  rw [if_neg (by omega), if_pos (by simp; omega)]
  show ((List.range (n + 2)).map g)[((-2 : Int) + (((List.range (n + 2)).map g).length : Int)).toNat]? = _
  have e : ((-2 : Int) + (((List.range (n + 2)).map g).length : Int)).toNat = n := by
    simp
    omega
  rw [e, List.getElem?_map, List.getElem?_range (by omega)]
  rfl
theorem min_b2 (i j : Int) : b2D .min (.int i) (.int j) = some (.int (min i j)) := by
  simp [b2D]
  split <;> omega
theorem max_b2 (i j : Int) : b2D .max (.int i) (.int j) = some (.int (max i j)) := by
  simp [b2D]
  split <;> omega
/-- the greatest of a list, its first place -/
theorem max_first {N : Nat} (hN : 0 < N) (g : Nat → Int) : ∃ z, z < N ∧ b1D .max (.lst ((List.range N).map fun i => D.int (g i))) = some (.int (g z)) ∧ (∀ y, y < N → g y ≤ g z) ∧ (∀ y, y < z → g y ≠ g z) := by
  obtain ⟨m, e, h1, h2⟩ := maxD_ints (xs := (List.range N).map g) (by simp; omega)
  obtain ⟨w, hw, rfl⟩ := List.mem_map.mp h1
  have hw := List.mem_range.mp hw
  obtain ⟨z, z1, ⟨z2, z3⟩, z4⟩ := Gm.least_of (P := fun z => z < N ∧ g z = g w) ⟨hw, rfl⟩
  refine ⟨z, z2, ?_, fun y hy => ?_, fun y hy e => z4 y hy ⟨by omega, e.trans z3⟩⟩
  · rw [List.map_map] at e
    rw [z3]
    exact e
  · rw [z3]
    exact h2 _ (List.mem_map.mpr ⟨y, List.mem_range.mpr hy, rfl⟩)
theorem min_first {N : Nat} (hN : 0 < N) (g : Nat → Int) : ∃ z, z < N ∧ b1D .min (.lst ((List.range N).map fun i => D.int (g i))) = some (.int (g z)) ∧ (∀ y, y < N → g z ≤ g y) ∧ (∀ y, y < z → g y ≠ g z) := by
  obtain ⟨m, e, h1, h2⟩ := minD_ints (xs := (List.range N).map g) (by simp; omega)
  obtain ⟨w, hw, rfl⟩ := List.mem_map.mp h1
  have hw := List.mem_range.mp hw
  obtain ⟨z, z1, ⟨z2, z3⟩, z4⟩ := Gm.least_of (P := fun z => z < N ∧ g z = g w) ⟨hw, rfl⟩
  refine ⟨z, z2, ?_, fun y hy => ?_, fun y hy e => z4 y hy ⟨by omega, e.trans z3⟩⟩
  · rw [List.map_map] at e
    rw [z3]
    exact e
  · rw [z3]
    exact h2 _ (List.mem_map.mpr ⟨y, List.mem_range.mpr hy, rfl⟩)
theorem okds_range (n : Nat) (g : Nat → D) (k : Nat) (h : ∀ i, i < n → (g i).okd k = true) : D.okds ((List.range n).map g) k = true := by
  induction n with
  | zero => rfl
  | succ n ih =>
    have key : ∀ (xs ys : List D), D.okds xs k = true → D.okds ys k = true → D.okds (xs ++ ys) k = true := by
      intro xs
      induction xs with
      | nil => intro ys _ h; exact h
      | cons x xs ih =>
        intro ys h1 h2
        simp only [D.okds, Bool.and_eq_true] at h1
        show D.okds (x :: (xs ++ ys)) k = true
        simp only [D.okds, Bool.and_eq_true]
        exact ⟨h1.1, ih ys h1.2 h2⟩
    rw [List.range_succ, List.map_append]
    refine key _ _ (ih fun i hi => h i (by omega)) ?_
    simp [D.okds, h n (by omega)]
/-- l.index(v), l given by places -/
theorem index_range {N z : Nat} (g : Nat → D) (v : D) (hg : ∀ i, i < N → (g i).okd 63 = true) (hv : v.okd 64 = true) (hz : z < N) (h1 : eqb (g z) v = true) (h2 : ∀ y, y < z → eqb (g y) v = false) : indexD (.lst ((List.range N).map g)) v = some (.int (z : Nat)) := by
  rw [indexD_lst hv (okds_range N g 63 hg)]
  have : ((List.range N).map g).findIdx? (fun y => eqb y v) = some z := by
    rw [List.findIdx?_eq_some_iff_getElem]
    refine ⟨by simpa using hz, by simpa using h1, fun j hj => ?_⟩
    simpa using h2 j hj
  rw [this]
  rfl
theorem index_ints {N z : Nat} (g : Nat → Int) (hz : z < N) (h2 : ∀ y, y < z → g y ≠ g z) : indexD (.lst ((List.range N).map fun i => D.int (g i))) (.int (g z)) = some (.int (z : Nat)) :=
  index_range (fun i => D.int (g i)) (.int (g z)) (fun _ _ => rfl) rfl hz (by simp [eqb]) fun y hy => by simpa [eqb] using h2 y hy
@[simp] theorem eqb_int (i j : Int) : eqb (.int i) (.int j) = decide (i = j) := by
  simp only [eqb]
  by_cases h : i = j <;> simp [h]
end Gc
end
section
set_option autoImplicit false
set_option linter.all false
set_option maxRecDepth 100000
namespace Gc
open PySem Mi
/-- dice stay dice -/
def Keep (M M' : Mst) : Prop := ∀ m, Dice m M → Dice m M'
theorem Rolled.keep {n : Nat} {M M' : Mst} (h : Rolled n M M') : Keep M M' := fun m hm => by
  by_cases q : m = n
  · subst q
    exact hm.roll h
  · obtain ⟨a, b, e⟩ := hm
    exact ⟨a, b, by rw [h.other q, e]⟩
/-- a law: for each of its draws its body, then True -/
theorem law_run {T : List KF} {body : List MS} {k : Nat} {hi : Int} (ns : List Int) (hl : ns.length ≤ 63) (h0 : 0 ≤ hi) (h1 : hi ≤ 100) (ht : tbl T 37 = f__law_rounds)
    (hb : ∀ (n : Nat) (M : Mst) (ss : List Slot), ss.length = k → Dice n M → ∃ (ts : List Slot) (M' : Mst), MS.dens (tbl T) body (.v (scD ns) :: .v (.ref n) :: ss) M = .nx (.v (scD ns) :: .v (.ref n) :: ts) M' ∧ ts.length = k ∧ Keep M M') :
    ∃ M', runDef (tbl T) (k + 2) [.loop [1] (.seq (.call 37 (.cons (.var 0) (.cons (.int hi) .nil)))) body, .ret (.bl true)] [scD ns] [] = .ok (.bl true) M' := by
  obtain ⟨m, M1, e1, l1, d1⟩ := rounds_ok ns hl h0 h1
  rw [run_eq]
  have e0 : MI.den (tbl T) (.seq (.call 37 (.cons (.var 0) (.cons (.int hi) .nil)))) (.v (scD ns) :: List.replicate (k + 1) .no) [] = .ok ((List.range m).map D.ref) M1 := by
    simp -implicitDefEqProofs [ht, e1]
  simp only [List.map_cons, List.map_nil, List.length_cons, List.length_nil, List.cons_append, List.nil_append]
  rw [show k + 2 - (0 + 1) = k + 1 by omega]
  rw [dens_cons, den_loop, e0, toS_ok_]
  generalize hz : forD _ _ _ _ = Z
  obtain ⟨ρ', M', rfl, ⟨s1, ss, rfl, hs⟩, _⟩ := forD_out hz (fun j ρ M => (∃ s1 ss, ρ = .v (scD ns) :: s1 :: ss ∧ ss.length = k) ∧ ∀ n, n < m → Dice n M) ⟨⟨.no, List.replicate k .no, by rw [List.replicate_succ], List.length_replicate⟩, d1⟩ (by
    rintro j x ρ M ex ⟨⟨s1, ss, rfl, hs⟩, hd⟩
    rw [List.getElem?_map] at ex
    obtain ⟨i, ei, rfl⟩ := Option.map_eq_some_iff.mp ex
    obtain ⟨rfl, hi⟩ := range_at ei
    obtain ⟨ts, M', e, ht, hk⟩ := hb i M ss hs (hd i hi)
    refine ⟨_, M', ?_, ⟨.v (.ref i), ts, rfl, ht⟩, fun n hn => hk n (hd n hn)⟩
    rw [asg_one]
    exact e)
  exact ⟨M', rfl⟩
end Gc
end
section
set_option autoImplicit false
set_option linter.all false
set_option maxRecDepth 100000
namespace Gc
open PySem Mi
open Gm (nextsP gapsP movedP nextP rowT Runs Backs xx ext bb wm rowOf Row sm)
variable {M M' M2 : Mst} {L r : Int} {xs : List Int}
theorem gaps_ok (h : RR L r xs) : f_gaps [rgD L r, row xs] M = .ok (row (gapsP L xs)) M := by
  show runDef (tbl T_gaps) 2 b_gaps _ M = _
  rw [run_eq]
  simp -implicitDefEqProofs [b_gaps, need_row_ok h.ring h.good, all_gaps_ok h.ne h.few]
theorem runs_ok (h : RR L r xs) (t : Nat) : f_runs [rgD L r, row (rowT L r xs t)] M = .ok (.bl (runB L r xs t)) M := by
  show runDef (tbl T_runs) 2 b_runs _ M = _
  rw [run_eq]
  simp -implicitDefEqProofs [b_runs, need_row_ok h.ring (h.at_ t).good, run_at h]
theorem backs_ok (h : RR L r xs) (t : Nat) : f_backs [rgD L r, row (rowT L r xs t)] M = .ok (.bl (backB L r xs t)) M := by
  show runDef (tbl T_backs) 2 b_backs _ M = _
  rw [run_eq]
  simp -implicitDefEqProofs [b_backs, need_row_ok h.ring (h.at_ t).good, back_at h]
theorem runs_ok0 (h : RR L r xs) : f_runs [rgD L r, row xs] M = .ok (.bl (runB L r xs 0)) M := by
  have := runs_ok (M := M) h 0
  rw [Gm.rowT_zero h.good] at this
  exact this
theorem backs_ok0 (h : RR L r xs) : f_backs [rgD L r, row xs] M = .ok (.bl (backB L r xs 0)) M := by
  have := backs_ok (M := M) h 0
  rw [Gm.rowT_zero h.good] at this
  exact this
theorem cut_2 (a b c : D) : slcD (.tup [a, b, c]) none (some 2) = some (.tup [a, b]) := rfl
theorem settles_ok (h : RR L r xs) {s : Nat} (hs : SetAt L r xs s) : f_settles [rgD L r, row xs] M = .ok (.tup [.int (s : Nat), .str (wordP L r xs s)]) M := by
  show runDef (tbl T_settles) 2 b_settles _ M = _
  rw [run_eq]
  simp -implicitDefEqProofs [b_settles, need_row_ok h.ring h.good, settled_ok h hs, cut_2]
theorem is_room_ok (h : RR L r xs) : f_is_room [rgD L r, row xs] M = .ok (.bl (decide ((xs.length : Int) * (r + 1) ≤ L))) M := by
  show runDef (tbl T_is_room) 2 b_is_room _ M = _
  rw [run_eq]
  have few := h.few
  have e2 : binD .mul (.int (xs.length : Nat)) (.int (r + 1)) = some (.int ((xs.length : Int) * (r + 1))) := mul_small (by omega) (by omega)
  simp -implicitDefEqProofs [b_is_room, e2]
theorem has_room_ok (h : RR L r xs) : f_has_room [rgD L r, row xs] M = .ok (.bl (decide ((xs.length : Int) * (r + 1) ≤ L))) M := by
  show runDef (tbl T_has_room) 2 b_has_room _ M = _
  rw [run_eq]
  simp -implicitDefEqProofs [b_has_room, need_row_ok h.ring h.good, is_room_ok h]
theorem need_all_ok (h : RR L r xs) {T : Nat} (hT : (T : Int) ≤ 1000000000000000000) : f_need_all [rgD L r, row xs, .int (T : Nat)] M = .ok .non M := by
  show runDef (tbl T_need_all) 3 b_need_all _ M = _
  rw [run_eq]
  have e5 : f_need_moment [.int (T : Nat)] M = .ok .non M := need_moment_ok ⟨by omega, hT⟩
  simp -implicitDefEqProofs [b_need_all, need_row_ok h.ring h.good, e5]
theorem gone_ok (h : RR L r xs) {T : Nat} (hT : (T : Int) ≤ 1000000000000000000) : f_gone [rgD L r, row xs, .int (T : Nat)] M = .ok (row (goneP L r xs T)) M := by
  show runDef (tbl T_gone) 3 b_gone _ M = _
  rw [run_eq]
  have e1 : f_need_all [rgD L r, row xs, .int (T : Nat)] M = .ok .non M := need_all_ok h hT
  have e2 : f_all_gone [rgD L r, row xs, .int (T : Nat)] M = .ok (row (goneP L r xs T)) M := all_gone_ok h hT
  simp -implicitDefEqProofs [b_gone, e1, e2]
theorem row_at_ok (h : RR L r xs) {T : Nat} (hT : (T : Int) ≤ 1000000000000000000) : f_row_at [rgD L r, row xs, .int (T : Nat)] M = .ok (row (rowT L r xs T)) M := by
  show runDef (tbl T_row_at) 3 b_row_at _ M = _
  rw [run_eq]
  have e2 : f_all_gone [rgD L r, row xs, .int (T : Nat)] M = .ok (row (goneP L r xs T)) M := all_gone_ok h hT
  simp -implicitDefEqProofs [b_row_at, e2, moved_ok h.L0, moved_gone h]
theorem after_ok (h : RR L r xs) {T : Nat} (hT : (T : Int) ≤ 1000000000000000000) : f_after [rgD L r, row xs, .int (T : Nat)] M = .ok (row (rowT L r xs T)) M := by
  show runDef (tbl T_after) 3 b_after _ M = _
  rw [run_eq]
  have e1 : f_need_all [rgD L r, row xs, .int (T : Nat)] M = .ok .non M := need_all_ok h hT
  have e2 : f_row_at [rgD L r, row xs, .int (T : Nat)] M = .ok (row (rowT L r xs T)) M := row_at_ok h hT
  simp -implicitDefEqProofs [b_after, e1, e2]
theorem held_ok (h : RR L r xs) {T : Nat} (hT : (T : Int) ≤ 1000000000000000000) : f_held [rgD L r, row xs, .int (T : Nat)] M = .ok (row ((goneP L r xs T).map fun g => r * (T : Int) - g)) M := by
  show runDef (tbl T_held) 4 b_held _ M = _
  rw [run_eq]
  have hr := h.ring.r
  have e1 : f_need_all [rgD L r, row xs, .int (T : Nat)] M = .ok .non M := need_all_ok h hT
  have e2 : f_all_gone [rgD L r, row xs, .int (T : Nat)] M = .ok (row (goneP L r xs T)) M := all_gone_ok h hT
  have e3 : binD .mul (.int r) (.int (T : Nat)) = some (.int (r * (T : Nat))) := mul_small (by omega) (by omega)
  simp -implicitDefEqProofs [b_held, e1, e2]
  rw [compD_mapI (g := fun g => .int (r * (T : Int) - g))]
  · simp -implicitDefEqProofs [row]
  · intro g hg
    simp -implicitDefEqProofs [e3]
theorem items_sp (n : Nat) (f : Nat → Int) : items (spD n f) = some ((List.range n).map fun j => D.int (f j)) := rfl
/-- the row of carts that stand so -/
theorem as_row_sp (hL : 0 < L) (n : Nat) (f : Nat → Int) : f__law_as_row [rgD L r, spD n f] M = .ok (row (rowOf L n f)) M := by
  show runDef (tbl T__law_as_row) 3 b__law_as_row _ M = _
  rw [run_eq]
  simp -implicitDefEqProofs [b__law_as_row, items_sp]
  rw [compD_mapI (g := fun j : Nat => D.int (f j % L))]
  · simp -implicitDefEqProofs [rowOf, srt_same, row]
  · intro j hj
    simp -implicitDefEqProofs [mod_ints hL]
theorem as_row_pos (h : RR L r xs) (t : Nat) : f__law_as_row [rgD L r, posD L r xs t] M = .ok (row (rowT L r xs t)) M := as_row_sp h.L0 _ _
end Gc
end
section
set_option autoImplicit false
set_option linter.all false
namespace Gm
section
variable {L r : Int} {n : Nat} {y : Nat → Int}
theorem backs_runs (Y : Rg L r n y) (h : Backs r y) (hr : (r + 1) * (n : Int) ≤ L) : Runs r y := fun j => by
  have hn := Y.n0
  have key : ∀ m : Nat, y (j + 1 + m) - y (j + 1) ≤ (r + 1) * (m : Int) := by
    intro m
    induction m with
    | zero => simp
    | succ m ih =>
      have := h (j + 1 + m)
      have e : (r + 1) * ((m + 1 : Nat) : Int) = (r + 1) * (m : Int) + (r + 1) := by rw [Int.natCast_add, Int.mul_add]; simp
      rw [e, ← Nat.add_assoc]
      omega
  have h1 := key (n - 1)
  have h2 := Y.per j
  have e : (r + 1) * ((n - 1 : Nat) : Int) = (r + 1) * (n : Int) - (r + 1) := by
    have : ((n - 1 : Nat) : Int) = (n : Int) - 1 := by omega
    rw [this, Int.mul_sub, Int.mul_one]
  rw [show j + 1 + (n - 1) = j + n by omega] at h1
  rw [e] at h1
  omega
/-- settled: it runs just if there is room -/
theorem runs_iff_room (Y : Rg L r n y) (h : Runs r y ∨ Backs r y) : Runs r y ↔ (n : Int) * (r + 1) ≤ L := by
  rw [Int.mul_comm]
  constructor
  · exact runs_room Y
  · intro q
    rcases h with h | h
    · exact h
    · exact backs_runs Y h q
/-- a step tells whether all run, all back -/
theorem step_runs (Y : Rg L r n y) : (∀ j, j < n → xx r y 1 j - y j = r) ↔ Runs r y := by
  have e : ∀ j, xx r y 1 j = min (y j + r) (y (j + 1) - 1) := fun j => by
    rw [show (1 : Nat) = 0 + 1 from rfl, xx_succ, xx_zero, xx_zero]
  constructor
  · intro h
    refine all_of_win (P := fun j => r ≤ y (j + 1) - y j - 1) (fun j h => by rw [gap_per Y] at h; exact h) (fun j h => by rw [gap_per Y]; exact h) Y.n0 0 fun j hj => ?_
    have := h j hj
    rw [e] at this
    show r ≤ y (j + 0 + 1) - y (j + 0) - 1
    simp only [Nat.add_zero]
    omega
  · intro h j _
    have := h j
    rw [e]
    omega
theorem step_backs (Y : Rg L r n y) : (∀ j, j < n → xx r y 1 j = y (j + 1) - 1) ↔ Backs r y := by
  have e : ∀ j, xx r y 1 j = min (y j + r) (y (j + 1) - 1) := fun j => by
    rw [show (1 : Nat) = 0 + 1 from rfl, xx_succ, xx_zero, xx_zero]
  constructor
  · intro h
    refine all_of_win (P := fun j => y (j + 1) - y j - 1 ≤ r) (fun j h => by rw [gap_per Y] at h; exact h) (fun j h => by rw [gap_per Y]; exact h) Y.n0 0 fun j hj => ?_
    have := h j hj
    rw [e] at this
    show y (j + 0 + 1) - y (j + 0) - 1 ≤ r
    simp only [Nat.add_zero]
    omega
  · intro h j _
    have := h j
    rw [e]
    omega
end
end Gm
end
section
set_option autoImplicit false
set_option linter.all false
set_option maxRecDepth 100000
namespace Gc
open PySem Mi
open Gm (nextsP gapsP movedP nextP rowT Runs Backs xx ext bb wm rowOf Row sm)
variable {M M' M2 : Mst} {L r : Int} {xs : List Int}
theorem RoundAt.rnd {s l : Nat} (h : RR L r xs) (H : RoundAt L r xs s l) : Gm.Rnd L r xs s l where
  at_ := by
    have := H.set.at_
    rw [runB_iff h, backB_iff h] at this
    exact this
  no := fun t ht => by
    have := H.set.no t ht
    rw [← runB_iff h, ← backB_iff h, this.1, this.2]
    simp
  pos := H.pos
  back := H.back
  least := H.no
/-- a thing among rows -/
theorem in_rows (z : List Int) (k : Nat) (g : Nat → List Int) : inD (row z) (.lst ((List.range k).map fun t => row (g t))) = some (decide (∃ t, t < k ∧ g t = z)) := by
  rw [inD_lst (okd_row z (by decide)) (okds_range k _ 63 fun i _ => okd_row _ (by decide))]
  congr 1
  rw [Bool.eq_iff_iff]
  simp
/-- two rows of numbers, pairs of them that differ from what they should be: none -/
theorem none_bad {n : Nat} {f : D → Mst → R (Option D)} (P : Nat → Bool) (h : Nat → D) (hf : ∀ j, j < n → f (h j) M = .ok (if P j then some (.int 1) else none) M) : ∃ ys : List Int, compD f ((List.range n).map h) M = .ok (ys.map .int) M ∧ (ys = [] ↔ ∀ j, j < n → P j = false) := by
  refine ⟨((List.range n).filter P).map fun _ => 1, ?_, ?_⟩
  · rw [compD_filI (h := h) (p := P) (g := fun _ => D.int 1)]
    · rw [List.map_map]
      rfl
    · intro j hj
      exact hf j (List.mem_range.mp hj)
  · rw [List.map_eq_nil_iff, List.filter_eq_nil_iff]
    constructor
    · intro h j hj
      have := h j (List.mem_range.mpr hj)
      simpa using this
    · intro h j hj
      simp [h j (List.mem_range.mp hj)]
theorem eq_nil (ys : List Int) : cmpD .eq (.lst (ys.map .int)) (.lst []) = some (decide (ys = [])) := by
  rw [eq_of (by simp [D.okd]) rfl, show D.lst [] = .lst (([] : List Int).map .int) from rfl, eqb_ints]
theorem zip_rngD {n : Nat} (f g : Nat → D) : zipD ((List.range n).map f) ((List.range n).map g) = (List.range n).map fun j => D.tup [f j, g j] := by
  unfold zipD
  rw [List.zip_map', List.map_map]
  rfl
theorem slc1_rng (n : Nat) (f : Nat → D) : slcD (.lst ((List.range (n + 1)).map f)) (some 1) none = some (.lst ((List.range n).map fun j => f (j + 1))) := by
  rw [slc_lst1]
  congr 2
  rw [List.range_succ_eq_map, List.map_cons, List.map_map]
  rfl
/-- the list of those ahead -/
theorem nexts_sp {n : Nat} {f : Nat → Int} (hn : 0 < n) (hn2 : n ≤ 1000) (hL : f n = f 0 + L) : ∃ x, slcD (spD n f) (some 1) none = some x ∧ subD M (spD n f) (.int 0) = some (.int (f 0)) ∧ binD .add x (.lst [.int (f 0 + L)]) = some (spD n fun j => f (j + 1)) := by
  obtain ⟨m, rfl⟩ : ∃ m, n = m + 1 := ⟨n - 1, by omega⟩
  refine ⟨_, slc1_rng m _, sub_sp (by omega) (by omega), ?_⟩
  rw [add_lsts (by simp [line]; omega)]
  unfold spD
  rw [List.range_succ, List.map_append, ← hL]
  rfl
def markP (L r : Int) (xs : List Int) (t : Nat) : Str := if runB L r xs t then "runs" else if backB L r xs t then "backs" else "neither"
theorem zip_short {n : Nat} (f g : Nat → D) : zipD ((List.range (n + 1)).map f) ((List.range n).map g) = (List.range n).map fun j => D.tup [f j, g j] := by
  unfold zipD
  refine List.ext_getElem (by simp) fun j h1 h2 => ?_
  simp
theorem pos_bits (h : RR L r xs) (t : Nat) : ∃ x, slcD (posD L r xs t) (some 1) none = some x ∧ subD M (posD L r xs t) (.int 0) = some (.int (xx r (ext L xs) t 0)) ∧ binD .add x (.lst [.int (xx r (ext L xs) t 0 + L)]) = some (spD xs.length fun j => xx r (ext L xs) t (j + 1)) := by
  have R := Gm.xx_rg h.rg t
  have e0 := R.per 0
  rw [Nat.zero_add] at e0
  exact nexts_sp h.n0 h.few e0
theorem run_step (h : RR L r xs) (t : Nat) : (∀ j, j < xs.length → xx r (ext L xs) (t + 1) j - xx r (ext L xs) t j = r) ↔ runB L r xs t = true := by
  rw [runB_iff h, ← Gm.step_runs (Gm.xx_rg h.rg t)]
  simp only [Gm.xx_add]
theorem back_step (h : RR L r xs) (t : Nat) : (∀ j, j < xs.length → xx r (ext L xs) (t + 1) j = xx r (ext L xs) t (j + 1) - 1) ↔ backB L r xs t = true := by
  rw [backB_iff h, ← Gm.step_backs (Gm.xx_rg h.rg t)]
  simp only [Gm.xx_add]
theorem marks_ok (h : RR L r xs) {K : Nat} (hK : K ≤ 1000) : f__law_marks [rgD L r, .lst ((List.range (K + 1)).map (posD L r xs))] M = .ok (.lst ((List.range K).map fun t => D.str (markP L r xs t))) M := by
  show runDef (tbl T__law_marks) 11 b__law_marks _ M = _
  rw [run_eq]
  generalize hW : (.lst ((List.range (K + 1)).map (posD L r xs)) : D) = wk
  have e0 : MI.den (tbl T__law_marks) (.zip (.var 1) (.slc (.var 1) (.some (.int 1)) .no)) [.v (rgD L r), .v wk, .own [], .no, .no, .no, .no, .no, .no, .no, .no] M = .ok ((List.range K).map fun t => D.tup [posD L r xs t, posD L r xs (t + 1)]) M := by
    have a1 := slc1_rng K (posD L r xs)
    have a2 : items (.lst ((List.range (K + 1)).map (posD L r xs))) = some ((List.range (K + 1)).map (posD L r xs)) := rfl
    rw [hW] at a1 a2
    simp -implicitDefEqProofs [a1, a2, zip_short]
  unfold b__law_marks
  simp only [List.map_cons, List.map_nil, List.length_cons, List.length_nil, List.cons_append, List.nil_append]
  rw [show List.replicate (11 - (0 + 1 + 1)) Slot.no = [Slot.no, .no, .no, .no, .no, .no, .no, .no, .no] from rfl]
  refine fin_step (ρ' := [.v (rgD L r), .v wk, .own [], .no, .no, .no, .no, .no, .no, .no, .no]) (M' := M) (by simp) ?_
  rw [dens_cons, den_loop, e0, toS_ok_]
  generalize hz : forD _ _ _ _ = Z
  obtain ⟨k, rfl⟩ := forD_st (τ := Slot × Slot × Slot × Slot × Slot × Slot × Slot × Slot) hz (fun i k => [.v (rgD L r), .v wk, .own ((List.range i).map fun t => D.str (markP L r xs t)), k.1, k.2.1, k.2.2.1, k.2.2.2.1, k.2.2.2.2.1, k.2.2.2.2.2.1, k.2.2.2.2.2.2.1, k.2.2.2.2.2.2.2]) (fun _ _ => M) (.no, .no, .no, .no, .no, .no, .no, .no) rfl rfl (by
    rintro j x ⟨s3, s4, s5, s6, s7, s8, s9, s10⟩ hx
    obtain ⟨rfl, hj⟩ := range_at hx
    obtain ⟨y, b1, b2, b3⟩ := pos_bits (M := M) h x
    refine ⟨(.v (posD L r xs x), .v (posD L r xs (x + 1)), .v (spD xs.length fun j => xx r (ext L xs) x (j + 1)), .v (.bl (runB L r xs x)), .v (.bl (backB L r xs x)), s8, s9, s10), ?_⟩
    rw [asg_two]
    simp only [List.set_cons_succ, List.set_cons_zero]
    generalize hQ : (List.range x).map (fun t => D.str (markP L r xs t)) = Q
    apply dens_step
    · simp -implicitDefEqProofs [b1, b2, b3]
      exact ⟨rfl, rfl⟩
    apply dens_step
    · obtain ⟨ys, e1, e2⟩ := none_bad (M := M) (n := xs.length) (f := cfF (tbl T__law_marks) (.int 1) [8, 9] (.cmp .ne (.bin .sub (.var 9) (.var 8)) (.sub (.var 0) (.int 1))) [.v (rgD L r), .v wk, .own Q, .v (posD L r xs x), .v (posD L r xs (x + 1)), .v (spD xs.length fun j => xx r (ext L xs) x (j + 1)), s6, s7, s8, s9, s10]) (fun j => !decide (xx r (ext L xs) (x + 1) j - xx r (ext L xs) x j = r)) (fun j => D.tup [.int (xx r (ext L xs) x j), .int (xx r (ext L xs) (x + 1) j)]) (fun j hj => by
        by_cases c : xx r (ext L xs) (x + 1) j - xx r (ext L xs) x j = r <;> simp -implicitDefEqProofs [cfF, c])
      have e3 : decide (ys = []) = runB L r xs x := by
        rw [Bool.eq_iff_iff, decide_eq_true_eq, e2, ← run_step h]
        simp
      have ez : MI.den (tbl T__law_marks) (.zip (.var 3) (.var 4)) [.v (rgD L r), .v wk, .own Q, .v (posD L r xs x), .v (posD L r xs (x + 1)), .v (spD xs.length fun j => xx r (ext L xs) x (j + 1)), s6, s7, s8, s9, s10] M = .ok ((List.range xs.length).map fun j => D.tup [.int (xx r (ext L xs) x j), .int (xx r (ext L xs) (x + 1) j)]) M := by
        simp -implicitDefEqProofs [posD, items_sp, zip_rngD]
      rw [den_set, den_cmp, compIf_cf, ez]
      simp only [bind_ok_]
      rw [e1]
      simp -implicitDefEqProofs [eq_nil, e3]
      exact ⟨rfl, rfl⟩
    apply dens_step
    · obtain ⟨ys, e1, e2⟩ := none_bad (M := M) (n := xs.length) (f := cfF (tbl T__law_marks) (.int 1) [10, 9] (.cmp .ne (.var 9) (.bin .sub (.var 10) (.int 1))) [.v (rgD L r), .v wk, .own Q, .v (posD L r xs x), .v (posD L r xs (x + 1)), .v (spD xs.length fun j => xx r (ext L xs) x (j + 1)), .v (.bl (runB L r xs x)), s7, s8, s9, s10]) (fun j => !decide (xx r (ext L xs) (x + 1) j = xx r (ext L xs) x (j + 1) - 1)) (fun j => D.tup [.int (xx r (ext L xs) x (j + 1)), .int (xx r (ext L xs) (x + 1) j)]) (fun j hj => by
        by_cases c : xx r (ext L xs) (x + 1) j = xx r (ext L xs) x (j + 1) - 1 <;> simp -implicitDefEqProofs [cfF, c])
      have e3 : decide (ys = []) = backB L r xs x := by
        rw [Bool.eq_iff_iff, decide_eq_true_eq, e2, ← back_step h]
        simp
      have ez : MI.den (tbl T__law_marks) (.zip (.var 5) (.var 4)) [.v (rgD L r), .v wk, .own Q, .v (posD L r xs x), .v (posD L r xs (x + 1)), .v (spD xs.length fun j => xx r (ext L xs) x (j + 1)), .v (.bl (runB L r xs x)), s7, s8, s9, s10] M = .ok ((List.range xs.length).map fun j => D.tup [.int (xx r (ext L xs) x (j + 1)), .int (xx r (ext L xs) (x + 1) j)]) M := by
        simp -implicitDefEqProofs [posD, items_sp, zip_rngD]
      rw [den_set, den_cmp, compIf_cf, ez]
      simp only [bind_ok_]
      rw [e1]
      simp -implicitDefEqProofs [eq_nil, e3]
      exact ⟨rfl, rfl⟩
    have ll : Q.length < line := by
      rw [← hQ, List.length_map, List.length_range]
      unfold line
      omega
    have e9 : (List.range (x + 1)).map (fun t => D.str (markP L r xs t)) = Q ++ [D.str (markP L r xs x)] := by rw [take_range (x + 1) x _ (by omega), hQ]
    rw [e9]
    cases q1 : runB L r xs x <;> cases q2 : backB L r xs x <;> simp -implicitDefEqProofs [ll, markP, q1, q2])
  rw [List.length_range]
  simp -implicitDefEqProofs
end Gc
end
section
set_option autoImplicit false
set_option linter.all false
set_option maxRecDepth 100000
namespace Gc
open PySem Mi
open Gm (nextsP gapsP movedP nextP rowT Runs Backs xx ext bb wm rowOf Row sm)
variable {M M' M2 : Mst} {L r : Int} {xs : List Int}
@[simp] theorem ne_strs (a b : Str) : cmpD .ne (.str a) (.str b) = some (!decide (a = b)) := rfl
@[simp] theorem eq_strs (a b : Str) : cmpD .eq (.str a) (.str b) = some (decide (a = b)) := rfl
@[simp] theorem ne_bls (a b : Bool) : cmpD .ne (.bl a) (.bl b) = some (!decide (a = b)) := rfl
@[simp] theorem eq_bls (a b : Bool) : cmpD .eq (.bl a) (.bl b) = some (decide (a = b)) := rfl
@[simp] theorem okd_neither (k : Nat) : (D.str "neither").okd k = true := by
  show PyData.canLay0 (.str "neither") = true
  decide +kernel
@[simp] theorem okd_runs (k : Nat) : (D.str "runs").okd k = true := by
  show PyData.canLay0 (.str "runs") = true
  decide +kernel
@[simp] theorem okd_backs (k : Nat) : (D.str "backs").okd k = true := by
  show PyData.canLay0 (.str "backs") = true
  decide +kernel
@[simp] theorem okd_mark (t k : Nat) : (D.str (markP L r xs t)).okd k = true := by
  unfold markP
  split
  · exact okd_runs k
  · split
    · exact okd_backs k
    · exact okd_neither k
@[simp] theorem okd_word (t k : Nat) : (D.str (wordP L r xs t)).okd k = true := by
  unfold wordP
  split
  · exact okd_runs k
  · exact okd_backs k
theorem strs_ne : ("runs" : Str) ≠ "backs" ∧ ("runs" : Str) ≠ "neither" ∧ ("backs" : Str) ≠ "neither" := by decide +kernel
theorem mark_neither (t : Nat) : markP L r xs t = "neither" ↔ runB L r xs t = false ∧ backB L r xs t = false := by
  obtain ⟨n1, n2, n3⟩ := strs_ne
  unfold markP
  cases runB L r xs t <;> cases backB L r xs t <;> simp [n2, n3]
theorem mark_runs (t : Nat) : markP L r xs t = "runs" ↔ runB L r xs t = true := by
  obtain ⟨n1, n2, n3⟩ := strs_ne
  unfold markP
  cases runB L r xs t <;> cases backB L r xs t <;> simp [Ne.symm n1, Ne.symm n2]
theorem word_mark {s : Nat} (hs : SetAt L r xs s) : wordP L r xs s = markP L r xs s := by
  have := hs.at_
  unfold wordP markP
  cases q : runB L r xs s with
  | true => simp
  | false =>
    rw [q] at this
    simp at this
    simp [this]
theorem settled_from (h : RR L r xs) {s t : Nat} (hs : SetAt L r xs s) (ht : s ≤ t) : runB L r xs t = true ∨ backB L r xs t = true := by
  have q := hs.at_
  rw [runB_iff h, backB_iff h] at q
  rw [runB_iff h, backB_iff h]
  have := Gm.settled_stay q (t - s)
  have e : xx r (xx r (ext L xs) s) (t - s) = xx r (ext L xs) t := funext fun j => by rw [← Gm.xx_add, show s + (t - s) = t by omega]
  rw [e] at this
  exact this
theorem mark_from (h : RR L r xs) {s t : Nat} (hs : SetAt L r xs s) : markP L r xs t ≠ "neither" ↔ s ≤ t := by
  rw [Ne, mark_neither]
  constructor
  · intro q
    by_cases c : s ≤ t
    · exact c
    · exact absurd (hs.no t (by omega)) q
  · intro c q
    rcases settled_from h hs c with z | z
    · rw [q.1] at z
      cases z
    · rw [q.2] at z
      cases z
theorem cut_from {α : Type} (xs : List α) (s : Nat) (h : s ≤ xs.length) : cutL xs (some (s : Int)) none = xs.drop s := by
  unfold cutL HT.sIx
  simp
  have : min s xs.length = s := by omega
  rw [this]
  exact List.take_of_length_le (by simp)
theorem drop_range (K s : Nat) (g : Nat → D) : ((List.range K).map g).drop s = (List.range (K - s)).map fun i => g (s + i) := by
  refine List.ext_getElem (by simp) fun j h1 h2 => ?_
  simp
theorem no_neither (h : RR L r xs) {s K : Nat} (hs : SetAt L r xs s) (hK : s ≤ K) : ∃ x, slcD (.lst ((List.range K).map fun t => D.str (markP L r xs t))) (some (s : Int)) none = some x ∧ inD (.str "neither") x = some false := by
  refine ⟨.lst ((List.range (K - s)).map fun i => D.str (markP L r xs (s + i))), ?_, ?_⟩
  · show some (D.lst (cutL _ _ _)) = _
    rw [cut_from _ s (by simpa using hK), drop_range]
  · rw [inD_lst (okd_neither 64) (okds_range _ _ 63 fun i _ => okd_mark _ _)]
    congr 1
    rw [List.any_eq_false]
    intro y hy
    obtain ⟨i, hi, rfl⟩ := List.mem_map.mp hy
    have := (mark_from h hs (t := s + i)).mpr (by omega)
    simp [eqb, this]
/-- the least of those that fit -/
theorem min_fit {K s : Nat} {p : Int → Bool} (hs : s < K) (hp : ∀ t : Nat, t < K → (p (t : Int) = true ↔ s ≤ t)) : b1D .min (.lst ((((List.range K).map fun i : Nat => (i : Int)).filter p).map .int)) = some (.int (s : Nat)) := by
  have hm : (s : Int) ∈ ((List.range K).map fun i : Nat => (i : Int)).filter p := List.mem_filter.mpr ⟨List.mem_map.mpr ⟨s, List.mem_range.mpr hs, rfl⟩, (hp s hs).mpr (Nat.le_refl _)⟩
  obtain ⟨m, e, h1, h2⟩ := minD_ints (List.ne_nil_of_mem hm)
  have h3 := h2 _ hm
  obtain ⟨h4, h5⟩ := List.mem_filter.mp h1
  obtain ⟨t, ht, rfl⟩ := List.mem_map.mp h4
  have := (hp t (List.mem_range.mp ht)).mp h5
  rw [show (s : Int) = (t : Int) by omega]
  exact e
theorem max_row {ys : List Int} (h : ys ≠ []) (r : Int) : ∃ m, b1D .max (row ys) = some (.int m) ∧ (m ≤ r ↔ ∀ g ∈ ys, g ≤ r) := by
  obtain ⟨m, e, h1, h2⟩ := maxD_ints h
  refine ⟨m, e, fun q g hg => ?_, fun q => q m h1⟩
  have := h2 g hg
  omega
theorem min_row {ys : List Int} (h : ys ≠ []) (r : Int) : ∃ m, b1D .min (row ys) = some (.int m) ∧ (r ≤ m ↔ ∀ g ∈ ys, r ≤ g) := by
  obtain ⟨m, e, h1, h2⟩ := minD_ints h
  refine ⟨m, e, fun q g hg => ?_, fun q => q m h1⟩
  have := h2 g hg
  omega
theorem ne_int_str (i j : Int) {a b : Str} (ha : (D.str a).okd 63 = true) (hb : (D.str b).okd 63 = true) : cmpD .ne (.tup [.int i, .str a]) (.tup [.int j, .str b]) = some (!(decide (i = j) && decide (a = b))) := by
  have h1 : (D.tup [.int i, .str a]).okd 64 = true := by
    show (decide (0 < 64) && (D.okd (.int i) 63 && (D.okd (.str a) 63 && true))) = true
    rw [ha]
    rfl
  have h2 : (D.tup [.int j, .str b]).okd 64 = true := by
    show (decide (0 < 64) && (D.okd (.int j) 63 && (D.okd (.str b) 63 && true))) = true
    rw [hb]
    rfl
  rw [ne_of h1 h2]
  have e : eqb (.str a) (.str b) = decide (a = b) := by
    simp only [eqb]
    by_cases c : a = b <;> simp [c]
  simp only [eqb, eqbs, Bool.and_true]
  have e' := e
  simp only [eqb] at e'
  rw [e']
  by_cases c : i = j <;> simp [c]
end Gc
end
section
set_option autoImplicit false
set_option linter.all false
set_option maxRecDepth 100000
namespace Gc
open PySem Mi
open Gm (nextsP gapsP movedP nextP rowT Runs Backs xx ext bb wm rowOf Row sm)
variable {M M' M2 : Mst} {L r : Int} {xs : List Int}
theorem fold_lexmin2 {γ : Type} (f g : γ → Int) : ∀ (ks : List γ) (k : γ), ∃ z, z ∈ k :: ks ∧ (ks.map fun k => [f k, g k]).foldl (fun a b => if HT.lexLt b a then b else a) [f k, g k] = [f z, g z] ∧ ∀ y ∈ k :: ks, f z < f y ∨ f z = f y ∧ g z ≤ g y
  | [], k => ⟨k, by simp, rfl, fun y hy => by
    rw [List.mem_singleton.mp hy]
    omega⟩
  | j :: ks, k => by
    rw [List.map_cons, List.foldl_cons, lex2]
    by_cases q : (decide (f j < f k) || (decide (f j = f k) && decide (g j < g k))) = true
    · rw [if_pos q]
      obtain ⟨z, h1, h2, h3⟩ := fold_lexmin2 f g ks j
      refine ⟨z, List.mem_cons_of_mem _ h1, h2, fun y hy => ?_⟩
      rcases List.mem_cons.mp hy with rfl | hy
      · have := h3 j (by simp)
        simp at q
        omega
      · exact h3 y hy
    · rw [if_neg q]
      obtain ⟨z, h1, h2, h3⟩ := fold_lexmin2 f g ks k
      refine ⟨z, ?_, h2, fun y hy => ?_⟩
      · rcases List.mem_cons.mp h1 with rfl | h1
        · simp
        · simp [h1]
      · rcases List.mem_cons.mp hy with rfl | hy
        · exact h3 y (by simp)
        · rcases List.mem_cons.mp hy with rfl | hy
          · have := h3 k (by simp)
            simp at q
            omega
          · exact h3 y (by simp [hy])
theorem min_pairs2 {γ : Type} {ks : List γ} (h : ks ≠ []) (f g : γ → Int) : ∃ z, z ∈ ks ∧ b1D .min (.lst (ks.map fun k => D.tup [.int (f k), .int (g k)])) = some (.tup [.int (f z), .int (g z)]) ∧ ∀ y ∈ ks, f z < f y ∨ f z = f y ∧ g z ≤ g y := by
  cases ks with
  | nil => exact absurd rfl h
  | cons k ks =>
    obtain ⟨z, h1, h2, h3⟩ := fold_lexmin2 f g ks k
    refine ⟨z, h1, ?_, h3⟩
    have e1 := ints_pairs (ks := k :: ks) h fun k => [.int (f k), .int (g k)]
    have e2 := rows_pairs (k :: ks) f g
    have e0 : b1D .min (.lst ((k :: ks).map fun k => D.tup [.int (f k), .int (g k)])) = minD ((k :: ks).map fun k => D.tup [.int (f k), .int (g k)]) := rfl
    rw [e0]
    unfold minD
    rw [e1, e2]
    simp only [List.map_cons]
    rw [h2]
    rfl
/-- by which number a cart is held, all there is to say -/
structure LeastK (L r : Int) (xs : List Int) (T c k : Nat) : Prop where
  le : k ≤ T
  val : valP L r xs T c k = xx r (ext L xs) T c - ext L xs c
  low : ∀ y, y ≤ T → xx r (ext L xs) T c - ext L xs c ≤ valP L r xs T c y
  first : ∀ y, y < k → xx r (ext L xs) T c - ext L xs c < valP L r xs T c y
theorem val_low (h : RR L r xs) {T c y : Nat} (hy : y ≤ T) : xx r (ext L xs) T c - ext L xs c ≤ valP L r xs T c y := by
  have k4 := Gm.wm_le (b := bb r (ext L xs)) (t := T) (j := c) (i := c + y) (by omega) (by omega)
  rw [val_eq hy]
  unfold xx
  omega
/-- where carts are many, those further ahead hold more -/
theorem val_tight (h : RR L r xs) (q : L < (xs.length : Int) * (r + 1)) {T c : Nat} : ∀ m y : Nat, y + xs.length * (m + 1) ≤ T → valP L r xs T c (y + xs.length * (m + 1)) < valP L r xs T c y := by
  have one : ∀ y : Nat, y + xs.length ≤ T → valP L r xs T c (y + xs.length) < valP L r xs T c y := by
    intro y hy
    have e := Gm.bb_per h.rg (c + y)
    rw [val_eq hy, val_eq (by omega), ← Nat.add_assoc, e]
    have : (r + 1) * (xs.length : Int) = (xs.length : Int) * (r + 1) := Int.mul_comm _ _
    omega
  intro m
  induction m with
  | zero =>
    intro y hy
    rw [Nat.zero_add, Nat.mul_one] at hy ⊢
    exact one y hy
  | succ m ih =>
    intro y hy
    have e : y + xs.length * (m + 1 + 1) = y + xs.length * (m + 1) + xs.length := by rw [Nat.mul_succ xs.length (m + 1)]; omega
    rw [e] at hy ⊢
    have := ih y (by omega)
    have := one _ hy
    omega
theorem ask_least (h : RR L r xs) {T c z : Nat} (hz : z ∈ askP L r xs.length T) (q : ∀ y ∈ askP L r xs.length T, valP L r xs T c z < valP L r xs T c y ∨ valP L r xs T c z = valP L r xs T c y ∧ (z : Int) ≤ (y : Int)) : LeastK L r xs T c z := by
  have hn := h.n0
  have hv : valP L r xs T c z = xx r (ext L xs) T c - ext L xs c := by
    obtain ⟨k, k1, k2⟩ := ask_has h T c
    have k3 := q k k1
    rw [val_eq (ask_le h hz), val_eq (ask_le h k1), k2] at k3
    have k4 := Gm.wm_le (b := bb r (ext L xs)) (t := T) (j := c) (i := c + z) (by omega) (by have := ask_le h hz; omega)
    rw [val_eq (ask_le h hz)]
    unfold xx
    omega
  have hle := ask_le h hz
  refine ⟨hle, hv, fun y hy => val_low h hy, fun y hy => ?_⟩
  rw [← hv]
  by_cases hin : y ∈ askP L r xs.length T
  · have := q y hin
    omega
  unfold askP at hz hin
  by_cases c1 : T < 2 * xs.length
  · rw [if_pos c1] at hin
    exact absurd (List.mem_range.mpr (by omega)) hin
  rw [if_neg c1] at hz hin
  by_cases c2 : (xs.length : Int) * (r + 1) ≤ L
  · rw [if_pos c2] at hz hin
    have := List.mem_range.mp hz
    exact absurd (List.mem_range.mpr (by omega)) hin
  rw [if_neg c2] at hz hin
  have lo : y < T + 1 - xs.length := by
    refine Nat.lt_of_not_le fun w => hin (List.mem_map.mpr ⟨y - (T + 1 - xs.length), List.mem_range.mpr (by omega), by omega⟩)
  -- a whole number of turns further on it is among those asked
  have hd := Nat.div_add_mod (T - y) xs.length
  have hm := Nat.mod_lt (T - y) hn
  obtain ⟨m, em⟩ : ∃ m, (T - y) / xs.length = m + 1 := by
    refine ⟨(T - y) / xs.length - 1, ?_⟩
    have : 0 < (T - y) / xs.length := Nat.div_pos (by omega) hn
    omega
  rw [em] at hd
  generalize hX : xs.length * (m + 1) = X at hd
  have t1 := val_tight h (by omega) (T := T) (c := c) m y (by rw [hX]; omega)
  rw [hX] at t1
  have t2 := val_low h (T := T) (c := c) (y := y + X) (by omega)
  omega
theorem least_at_ok2 (h : RR L r xs) {c T : Nat} (hc : c < xs.length) (hT : (T : Int) ≤ 1000000000000000000) : ∃ k : Nat, (∀ M, f_least_at [rgD L r, row xs, .int (c : Nat), .int (T : Nat)] M = .ok (.tup [.int (xx r (ext L xs) T c - ext L xs c), .int (k : Nat)]) M) ∧ LeastK L r xs T c k := by
  have hr := h.ring.r
  obtain ⟨z, h1, h2, h3⟩ := min_pairs2 (ask_ne h T) (valP L r xs T c) fun k => (k : Int)
  have K := ask_least h h1 h3
  refine ⟨z, fun M => ?_, K⟩
  simp -implicitDefEqProofs [f_least_at, runDef, b_least_at]
  rw [asked_ok h hT]
  simp -implicitDefEqProofs
  generalize hz : forD _ _ _ _ = Z
  obtain ⟨ρ', M', rfl, hM, s5, e5⟩ := forD_out hz (fun j ρ M' => M' = M ∧ ∃ s5, ρ = [.v (rgD L r), .v (row xs), .v (.int (c : Nat)), .v (.int (T : Nat)), .own (((askP L r xs.length T).map fun k => D.tup [.int (valP L r xs T c k), .int (k : Nat)]).take j), s5]) ⟨rfl, .no, rfl⟩ (by
    rintro j x ρ M' ex ⟨rfl, s5, rfl⟩
    rw [List.getElem?_map] at ex
    obtain ⟨k, ek, rfl⟩ := Option.map_eq_some_iff.mp ex
    have l1 := ask_len h T
    have l2 := take_len (g := fun k : Nat => D.tup [.int (valP L r xs T c k), .int (k : Nat)]) ek
    have l3 : ((((askP L r xs.length T).map fun k : Nat => D.tup [.int (valP L r xs T c k), .int (k : Nat)]).take j).length < line) := by
      unfold line
      omega
    have t1 : f_ahead_of [rgD L r, row xs, D.int (c : Nat), D.int (k : Nat)] M' = .ok (.int (ext L xs (c + k) - ext L xs c)) M' := ahead_of_ok h hc
    have t2 : binD .mul (.int r) (.int ((T : Int) - (k : Int))) = some (.int (r * ((T : Int) - (k : Int)))) := mul_small (by omega) (by omega)
    have t3 := take_more (g := fun k : Nat => D.tup [.int (valP L r xs T c k), .int (k : Nat)]) ek
    generalize (((askP L r xs.length T).map fun k : Nat => D.tup [.int (valP L r xs T c k), .int (k : Nat)]).take j) = Q at l3 t3 ⊢
    rw [t3]
    refine ⟨[.v (rgD L r), .v (row xs), .v (.int (c : Nat)), .v (.int (T : Nat)), .own (Q ++ [D.tup [.int (valP L r xs T c k), .int (k : Nat)]]), .v (.int (k : Nat))], M', ?_, rfl, _, rfl⟩
    simp -implicitDefEqProofs [t1, t2, l3, valP])
  subst hM e5
  rw [List.length_map, ← List.length_map (as := askP L r xs.length T) (f := fun k : Nat => D.tup [.int (valP L r xs T c k), .int (k : Nat)]), List.take_length]
  simp -implicitDefEqProofs [h2]
  exact K.val
/-- the least numbers of carts ahead by which they went so far -/
theorem held_by_ok (h : RR L r xs) {T : Nat} (hT : (T : Int) ≤ 1000000000000000000) : ∃ k : Nat → Nat, (∀ c, c < xs.length → LeastK L r xs T c (k c)) ∧ ∀ M, f_held_by [rgD L r, row xs, .int (T : Nat)] M = .ok (.tup ((List.range xs.length).map fun c => D.int (k c : Nat))) M := by
  have few := h.few
  have key : ∀ c : Nat, ∃ k : Nat, c < xs.length → (∀ M, f_least_at [rgD L r, row xs, .int (c : Nat), .int (T : Nat)] M = .ok (.tup [.int (xx r (ext L xs) T c - ext L xs c), .int (k : Nat)]) M) ∧ LeastK L r xs T c k := by
    intro c
    by_cases hc : c < xs.length
    · obtain ⟨k, h1, h2⟩ := least_at_ok2 h hc hT
      exact ⟨k, fun _ => ⟨h1, h2⟩⟩
    · exact ⟨0, fun w => absurd w hc⟩
  obtain ⟨k, hk⟩ : ∃ k : Nat → Nat, ∀ c, c < xs.length → (∀ M, f_least_at [rgD L r, row xs, .int (c : Nat), .int (T : Nat)] M = .ok (.tup [.int (xx r (ext L xs) T c - ext L xs c), .int (k c : Nat)]) M) ∧ LeastK L r xs T c (k c) := ⟨fun c => (key c).choose, fun c => (key c).choose_spec⟩
  refine ⟨k, fun c hc => (hk c hc).2, fun M => ?_⟩
  show runDef (tbl T_held_by) 4 b_held_by _ M = _
  rw [run_eq]
  have e1 : f_need_all [rgD L r, row xs, .int (T : Nat)] M = .ok .non M := need_all_ok h hT
  have e3 : rngOk 0 (xs.length : Int) = true := rngOk_0 (by omega) (by omega)
  simp -implicitDefEqProofs [b_held_by, e1, e3]
  rw [rngI_nat, compD_mapI (g := fun c : Nat => .int (k c : Nat))]
  · simp -implicitDefEqProofs
  · intro c hc
    have e2 := (hk c (List.mem_range.mp hc)).1 M
    have e4 : subD M (.tup [.int (xx r (ext L xs) T c - ext L xs c), .int (k c : Nat)]) (.int 1) = some (.int (k c : Nat)) := rfl
    simp -implicitDefEqProofs [e2, e4]
end Gc
end
section
set_option autoImplicit false
set_option linter.all false
set_option maxRecDepth 100000
namespace Gc
open PySem Mi
open Gm (nextsP gapsP movedP nextP rowT Runs Backs xx ext bb wm rowOf Row sm)
variable {M M' M2 : Mst} {L r : Int} {xs : List Int}
/-- what is no moment -/
def BadT (d : D) : Prop := ∀ M, f_need_moment [d] M = .exc 2 M
theorem bad_K {K : Int} {d : D} (h : ∀ M, f_is_whole [d, .int 0, .int K] M = .ok (.bl false) M) (M : Mst) : runDef (tbl T_need_moment) 1 [.cond (.not (.call 1 (.cons (.var 0) (.cons (.int 0) (.cons (.gl "FARTHEST" (.int K)) .nil))))) [.rai 2] []] [d] M = .exc 2 M := by
  simp [runDef, tbl, T_need_moment, e_is_whole, h]
theorem badT_of {d : D} (h : ∀ M, f_is_whole [d, .int 0, .int 1000000000000000000] M = .ok (.bl false) M) : BadT d := bad_K h
theorem badT_int {i : Int} (h : i < 0 ∨ 1000000000000000000 < i) : BadT (.int i) := badT_of fun M => by
  rw [is_whole_int]
  rcases h with h | h
  · rw [show decide ((0 : Int) ≤ i) = false from decide_eq_false (by omega), Bool.false_and]
  · rw [show decide (i ≤ (1000000000000000000 : Int)) = false from decide_eq_false (by omega), Bool.and_false]
theorem whole_bl (b : Bool) (lo hi : D) : f_is_whole [.bl b, lo, hi] M = .ok (.bl false) M := by
  simp [f_is_whole, runDef, b_is_whole, isiD]
theorem whole_non (lo hi : D) : f_is_whole [.non, lo, hi] M = .ok (.bl false) M := by
  simp [f_is_whole, runDef, b_is_whole, isiD]
theorem whole_str (s : Str) (lo hi : D) : f_is_whole [.str s, lo, hi] M = .ok (.bl false) M := by
  simp [f_is_whole, runDef, b_is_whole, isiD]
theorem badT_bl (b : Bool) : BadT (.bl b) := badT_of fun M => whole_bl b _ _
theorem badT_non : BadT .non := badT_of fun M => whole_non _ _
theorem badT_str (s : Str) : BadT (.str s) := badT_of fun M => whole_str s _ _
theorem need_all_bad (h : RR L r xs) {d : D} (q : BadT d) : f_need_all [rgD L r, row xs, d] M = .exc 2 M := by
  show runDef (tbl T_need_all) 3 b_need_all _ M = _
  rw [run_eq]
  simp -implicitDefEqProofs [b_need_all, need_row_ok h.ring h.good, q M, finD]
theorem gone_bad (h : RR L r xs) {d : D} (q : BadT d) : f_gone [rgD L r, row xs, d] M = .exc 2 M := by
  show runDef (tbl T_gone) 3 b_gone _ M = _
  rw [run_eq]
  simp -implicitDefEqProofs [b_gone, need_all_bad h q, finD]
theorem after_bad (h : RR L r xs) {d : D} (q : BadT d) : f_after [rgD L r, row xs, d] M = .exc 2 M := by
  show runDef (tbl T_after) 3 b_after _ M = _
  rw [run_eq]
  simp -implicitDefEqProofs [b_after, need_all_bad h q, finD]
theorem held_bad (h : RR L r xs) {d : D} (q : BadT d) : f_held [rgD L r, row xs, d] M = .exc 2 M := by
  show runDef (tbl T_held) 4 b_held _ M = _
  rw [run_eq]
  simp -implicitDefEqProofs [b_held, need_all_bad h q, finD]
theorem held_by_bad (h : RR L r xs) {d : D} (q : BadT d) : f_held_by [rgD L r, row xs, d] M = .exc 2 M := by
  show runDef (tbl T_held_by) 4 b_held_by _ M = _
  rw [run_eq]
  simp -implicitDefEqProofs [b_held_by, need_all_bad h q, finD]
theorem rep_lst (x : D) (n : Nat) : List.flatten (List.replicate n [x]) = List.replicate n x := by
  induction n with
  | zero => rfl
  | succ n ih => rw [List.replicate_succ, List.flatten_cons, ih]; rfl
/-- how far ahead, by rows one behind the other -/
theorem law_ahead_ok (h : RR L r xs) {c k : Nat} (hc : c < xs.length) (hk : k ≤ 1000) : f__law_ahead [rgD L r, row xs, .int (c : Nat), .int (k : Nat)] M = .ok (.int (ext L xs (c + k) - ext L xs c)) M := by
  show runDef (tbl T__law_ahead) 7 b__law_ahead _ M = _
  rw [run_eq]
  have hn := h.n0
  have few := h.few24
  have hL := h.ring.L
  have e1 : binD .fdiv (.int ((c : Int) + (k : Int))) (.int xs.length) = some (.int (((c + k) / xs.length : Nat) : Int)) := by
    rw [fdiv_small (by omega) (by omega), ← Int.natCast_add, ← Int.natCast_ediv]
  have hd := Nat.div_add_mod (c + k) xs.length
  have hm := Nat.mod_lt (c + k) hn
  have hle : (c + k) / xs.length ≤ c + k := Nat.div_le_self _ _
  generalize (c + k) / xs.length = q at *
  have e3 : rngOk 0 ((q : Int) + 1) = true := rngOk_0 (by omega) (by omega)
  have e0 : MI.den (tbl T__law_ahead) (.rng (.bin .add (.bin .fdiv (.bin .add (.var 2) (.var 3)) (.b1 .len (.var 1))) (.int 1))) [.v (rgD L r), .v (row xs), .v (.int (c : Nat)), .v (.int (k : Nat)), .v (.lst []), .no, .no] M = .ok ((List.range (q + 1)).map fun i : Nat => D.int (i : Nat)) M := by
    rw [← rngI_nat]
    simp -implicitDefEqProofs [e1, e3]
  unfold b__law_ahead
  simp only [List.map_cons, List.map_nil, List.length_cons, List.length_nil, List.cons_append, List.nil_append]
  rw [show List.replicate (7 - (0 + 1 + 1 + 1 + 1)) Slot.no = [Slot.no, .no, .no] from rfl]
  refine fin_step (ρ' := [.v (rgD L r), .v (row xs), .v (.int (c : Nat)), .v (.int (k : Nat)), .v (.lst []), .no, .no]) (M' := M) (by simp) ?_
  rw [dens_cons, den_loop, e0, toS_ok_]
  generalize hz : forD _ _ _ _ = Z
  obtain ⟨s5, rfl⟩ := forD_st (τ := Slot) hz (fun i s => [.v (rgD L r), .v (row xs), .v (.int (c : Nat)), .v (.int (k : Nat)), .v (.lst ((List.range (xs.length * i)).map fun j => D.int (ext L xs j))), s, .no]) (fun _ _ => M) .no (by rw [Nat.mul_zero]; rfl) rfl (by
    rintro j x s5 hx
    obtain ⟨rfl, hj⟩ := range_at hx
    refine ⟨.v (.int (x : Nat)), ?_⟩
    have hlx : xs.length * x ≤ 24 * 2000 := Nat.mul_le_mul few (by omega)
    have ll : ((List.range (xs.length * x)).map fun j => D.int (ext L xs j)).length + ((List.range xs.length).map fun j => D.int (ext L xs j + (x : Int) * L)).length ≤ line := by
      rw [List.length_map, List.length_range, List.length_map, List.length_range]
      unfold line
      omega
    have ee : ∀ j, ext L xs (xs.length * x + j) = ext L xs j + (x : Int) * L := by
      intro j
      clear ll hlx hx hj
      induction x with
      | zero => simp
      | succ x ih =>
        rw [show xs.length * (x + 1) + j = xs.length * x + j + xs.length by rw [Nat.mul_succ]; omega, Gm.ext_per h.ne, ih, Int.natCast_succ, Int.add_mul]
        omega
    have ea : (List.range (xs.length * (x + 1))).map (fun j => D.int (ext L xs j)) = (List.range (xs.length * x)).map (fun j => D.int (ext L xs j)) ++ (List.range xs.length).map fun j => D.int (ext L xs j + (x : Int) * L) := by
      rw [Nat.mul_succ, List.range_add, List.map_append, List.map_map]
      rw [show ((fun j => D.int (ext L xs j)) ∘ fun j => xs.length * x + j) = fun j => D.int (ext L xs j + (x : Int) * L) from funext fun j => by
        show D.int (ext L xs (xs.length * x + j)) = _
        rw [ee]]
    have em : binD .mul (.int (x : Nat)) (.int L) = some (.int ((x : Int) * L)) := mul_small (by omega) (by omega)
    have ec : compD (elF (tbl T__law_ahead) (.bin .add (.var 6) (.bin .mul (.var 5) (.sub (.var 0) (.int 0)))) [6] [.v (rgD L r), .v (row xs), .v (.int (c : Nat)), .v (.int (k : Nat)), .v (.lst ((List.range (xs.length * x)).map fun j => D.int (ext L xs j))), .v (.int (x : Nat)), .no]) (xs.map .int) M = .ok ((List.range xs.length).map fun j => D.int (ext L xs j + (x : Int) * L)) M := by
      conv => lhs; rw [show xs.map D.int = ((List.range xs.length).map (ext L xs)).map D.int from by rw [← Gm.self_range], List.map_map]
      rw [compD_mapI (g := fun j : Nat => .int (ext L xs j + (x : Int) * L))]
      intro i hi
      simp -implicitDefEqProofs [elF, em]
    rw [asg_one, ea]
    generalize (List.range (xs.length * x)).map (fun j => D.int (ext L xs j)) = Q at ll ec ⊢
    generalize ((List.range xs.length).map fun j => D.int (ext L xs j + (x : Int) * L)) = Q2 at ll ec ⊢
    have ad := add_lsts ll
    have ei : items (row xs) = some (xs.map .int) := rfl
    have e9 : ME.den (tbl T__law_ahead) (.comp (.bin .add (.var 6) (.bin .mul (.var 5) (.sub (.var 0) (.int 0)))) [6] (.seq (.var 1))) [.v (rgD L r), .v (row xs), .v (.int (c : Nat)), .v (.int (k : Nat)), .v (.lst Q), .v (.int (x : Nat)), .no] M = .ok (.lst Q2) M := by
      rw [comp_el, den_seq, den_var_]
      show (R.bind (R.bind (R.ok (row xs) M) _) _) = _
      rw [bind_ok_, ei, of_some_, bind_ok_, ec, bind_ok_]
    apply dens_step
    · rw [den_set, den_bin]
      simp only [List.set_cons_succ, List.set_cons_zero, den_var_, List.getElem?_cons_succ, List.getElem?_cons_zero, bind_ok_]
      rw [e9]
      simp -implicitDefEqProofs [ad]
      exact ⟨rfl, rfl⟩
    rfl)
  rw [List.length_range]
  have hs : subD M (.lst ((List.range (xs.length * (q + 1))).map fun j => D.int (ext L xs j))) (.int ((c : Int) + (k : Int))) = some (.int (ext L xs (c + k))) := by
    show L2.atI _ _ = _
    have lt : c + k < xs.length * (q + 1) := by rw [Nat.mul_succ]; omega
    rw [atI_ok (by omega) (by rw [List.length_map, List.length_range]; omega), List.getElem?_map, show ((c : Int) + (k : Int)).toNat = c + k by omega, List.getElem?_range lt]
    rfl
  have hs2 : subD M (row xs) (.int (c : Nat)) = some (.int (ext L xs c)) := by
    rw [Gm.ext_lt hc]
    exact sub_nat hc
  generalize (D.lst ((List.range (xs.length * (q + 1))).map fun j => D.int (ext L xs j))) = W at hs ⊢
  simp -implicitDefEqProofs [hs, hs2]
theorem law_way_ok (h : RR L r xs) {c k T : Nat} (hc : c < xs.length) : f__law_way [rgD L r, row xs, .int (c : Nat), .int (k : Nat), .int (T : Nat)] M = .ok (.int (valP L r xs T c k)) M := by
  show runDef (tbl T__law_way) 7 b__law_way _ M = _
  rw [run_eq]
  have hn := h.n0
  have hL := h.ring.L
  have hr := h.ring.r
  have few := h.few
  have e1 : binD .fdiv (.int ((c : Int) + (k : Int))) (.int xs.length) = some (.int (((c + k) / xs.length : Nat) : Int)) := by
    rw [fdiv_small (by omega) (by omega), ← Int.natCast_add, ← Int.natCast_ediv]
  have e2 : binD .mod (.int ((c : Int) + (k : Int))) (.int xs.length) = some (.int (((c + k) % xs.length : Nat) : Int)) := by
    rw [mod_ints (by omega), ← Int.natCast_add, ← Int.natCast_emod]
  have e3 := sub_nat (M := M) (xs := xs) hc
  have e4 := sub_nat (M := M) (xs := xs) (Nat.mod_lt (c + k) hn)
  have e5 : binD .mul (.int (((c + k) / xs.length : Nat) : Int)) (.int L) = some (.int ((((c + k) / xs.length : Nat) : Int) * L)) := mul_small' (by omega) (by omega)
  have e6 : binD .mul (.int r) (.int ((T : Int) - (k : Int))) = some (.int (r * ((T : Int) - (k : Int)))) := mul_small (by omega) (by omega)
  have key : (((c + k) / xs.length : Nat) : Int) * L + xs.getD ((c + k) % xs.length) 0 - xs.getD c 0 + r * ((T : Int) - (k : Int)) - (k : Int) = valP L r xs T c k := by
    unfold valP
    rw [Gm.ext_lt hc]
    unfold ext
    rw [Int.mul_comm L]
    omega
  rw [← key]
  generalize (c + k) / xs.length = q at *
  generalize (c + k) % xs.length = m at *
  simp -implicitDefEqProofs [b__law_way, e1, e2, e3, e4, e5, e6]
end Gc
end
section
set_option autoImplicit false
set_option linter.all false
namespace Gm
variable {L r : Int} {xs : List Int} {c : Int}
/-- one more cart: the row falls apart before and behind it -/
theorem wide_split (h : xs.Pairwise (· < ·)) (hc : c ∉ xs) : ∃ A B, xs = A ++ B ∧ srt (xs ++ [c]) = A ++ c :: B ∧ (∀ a ∈ A, a < c) ∧ ∀ b ∈ B, c < b := by
  have hA : ∀ a ∈ xs.filter (fun x => decide (x < c)), a < c := fun a ha => by simpa using (List.mem_filter.mp ha).2
  have hB : ∀ b ∈ xs.filter (fun x => decide (c < x)), c < b := fun b hb => by simpa using (List.mem_filter.mp hb).2
  have pA := h.filter (fun x => decide (x < c))
  have pB := h.filter (fun x => decide (c < x))
  refine ⟨xs.filter (fun x => decide (x < c)), xs.filter (fun x => decide (c < x)), ?_, ?_, hA, hB⟩
  · refine lt_one h ?_ fun k => ?_
    · rw [List.pairwise_append]
      exact ⟨pA, pB, fun a ha b hb => by have := hA a ha; have := hB b hb; omega⟩
    · rw [List.mem_append, List.mem_filter, List.mem_filter]
      constructor
      · intro hk
        have : k ≠ c := fun e => hc (e ▸ hk)
        rcases Int.lt_or_gt_of_ne this with w | w
        · exact Or.inl ⟨hk, by simpa using w⟩
        · exact Or.inr ⟨hk, by simpa using w⟩
      · rintro (w | w) <;> exact w.1
  · refine srt_eq ?_ ?_ fun k => ?_
    · rw [List.nodup_append]
      refine ⟨h.imp (fun w => by omega), by simp, fun a ha b hb => ?_⟩
      rw [List.mem_singleton] at hb
      subst hb
      exact fun e => hc (e ▸ ha)
    · rw [List.pairwise_append]
      refine ⟨pA, List.pairwise_cons.mpr ⟨hB, pB⟩, fun a ha b hb => ?_⟩
      have := hA a ha
      rcases List.mem_cons.mp hb with rfl | hb
      · exact this
      · have := hB b hb
        omega
    · rw [List.mem_append, List.mem_append, List.mem_cons, List.mem_filter, List.mem_filter, List.mem_singleton]
      constructor
      · rintro (w | w | w)
        · exact Or.inl w.1
        · exact Or.inr w
        · exact Or.inl w.1
      · rintro (hk | w)
        · have : k ≠ c := fun e => hc (e ▸ hk)
          rcases Int.lt_or_gt_of_ne this with w | w
          · exact Or.inl ⟨hk, by simpa using w⟩
          · exact Or.inr (Or.inr ⟨hk, by simpa using w⟩)
        · exact Or.inr (Or.inl w)
/-- where each cart is found when one more stands before the p-th -/
def sig (n p j : Nat) : Nat := j + (j + (n - p)) / n
theorem sig_per {n p : Nat} (hn : 0 < n) (j : Nat) : sig n p (j + n) = sig n p j + (n + 1) := by
  unfold sig
  rw [show j + n + (n - p) = j + (n - p) + n by omega, Nat.add_div_right _ hn]
  omega
theorem sig_lt {n p j : Nat} (hp : p ≤ n) (h : j < p) : sig n p j = j := by
  unfold sig
  rw [Nat.div_eq_of_lt (by omega)]
  rfl
theorem sig_ge {n p j : Nat} (hp : p ≤ n) (h : p ≤ j) (hj : j < n) : sig n p j = j + 1 := by
  unfold sig
  rw [Nat.div_eq_of_lt_le (k := 1) (by omega) (by omega)]
theorem sig_inc (n p j : Nat) : sig n p j + 1 ≤ sig n p (j + 1) := by
  unfold sig
  have := Nat.div_le_div_right (c := n) (show j + (n - p) ≤ j + 1 + (n - p) by omega)
  omega
/-- a row with one more cart -/
structure Wide (L : Int) (xs : List Int) (c : Int) (p : Nat) (ws : List Int) : Prop where
  row : Row L ws
  len : ws.length = xs.length + 1
  le : p ≤ xs.length
  at_ : ext L ws p = c
  sig : ∀ j, ext L ws (sig xs.length p j) = ext L xs j
theorem wide_of (R : Row L xs) (h0 : 0 ≤ c) (h1 : c < L) (hc : c ∉ xs) : ∃ p, Wide L xs c p (srt (xs ++ [c])) := by
  obtain ⟨A, B, e, e2, hA, hB⟩ := wide_split R.lt hc
  have pw : (srt (xs ++ [c])).Pairwise (· < ·) := srt_lt (by
    rw [List.nodup_append]
    refine ⟨R.lt.imp (fun w => by omega), by simp, fun a ha b hb => ?_⟩
    rw [List.mem_singleton] at hb
    subst hb
    exact fun e => hc (e ▸ ha))
  have lw : (srt (xs ++ [c])).length = xs.length + 1 := by
    rw [(srt_perm _).length_eq, List.length_append]
    rfl
  have hR : Row L (srt (xs ++ [c])) := ⟨fun w => by rw [w] at lw; simp at lw, pw, fun k hk => by
    have := (srt_perm _).mem_iff.mp hk
    rcases List.mem_append.mp this with w | w
    · exact R.lo k w
    · rw [List.mem_singleton] at w
      subst w
      exact ⟨h0, h1⟩⟩
  have lx : xs.length = A.length + B.length := by rw [e, List.length_append]
  have hn := List.length_pos_iff.mpr R.ne
  refine ⟨A.length, hR, lw, by omega, ?_, ?_⟩
  · rw [ext_lt (by omega), e2, List.getD_eq_getElem?_getD, List.getElem?_append_right (Nat.le_refl _), Nat.sub_self]
    rfl
  · have small : ∀ j, j < xs.length → ext L (srt (xs ++ [c])) (sig xs.length A.length j) = ext L xs j := by
      intro j hj
      by_cases w : j < A.length
      · rw [sig_lt (by omega) w, ext_lt (by omega), ext_lt hj, e2, List.getD_eq_getElem?_getD, List.getElem?_append_left w, e, List.getD_eq_getElem?_getD, List.getElem?_append_left w]
      · rw [sig_ge (by omega) (by omega) hj, ext_lt (by omega), ext_lt hj, e2, List.getD_eq_getElem?_getD, List.getElem?_append_right (by omega), e, List.getD_eq_getElem?_getD, List.getElem?_append_right (by omega), show j + 1 - A.length = j - A.length + 1 by omega, List.getElem?_cons_succ]
    intro j
    induction j using Nat.strongRecOn with
    | ind j ih =>
      by_cases w : j < xs.length
      · exact small j w
      · obtain ⟨k, rfl⟩ : ∃ k, j = k + xs.length := ⟨j - xs.length, by omega⟩
        rw [sig_per hn, ← lw, ext_per hR.ne, ih k (by omega), ext_per R.ne]
/-- one cart more never lets another one get further -/
theorem Wide.later {p : Nat} {ws : List Int} (W : Wide L xs c p ws) (hr : 0 ≤ r) : ∀ (T j : Nat), xx r (ext L ws) T (Gm.sig xs.length p j) ≤ xx r (ext L xs) T j
  | 0, j => by rw [xx_zero, xx_zero, W.sig]; exact Int.le_refl _
  | T + 1, j => by
    have i1 := W.later hr T j
    have i2 := W.later hr T (j + 1)
    have up : ∀ k i : Nat, i ≤ k → xx r (ext L ws) T i ≤ xx r (ext L ws) T k := by
      intro k i hik
      induction k with
      | zero => rw [show i = 0 by omega]; exact Int.le_refl _
      | succ k ih =>
        by_cases w : i = k + 1
        · rw [w]; exact Int.le_refl _
        · have := ih (by omega)
          have := xx_inc (W.row.rg hr) T k
          omega
    have i3 := up _ _ (sig_inc xs.length p j)
    rw [xx_succ, xx_succ]
    omega
/-- all but the one more -/
theorem Wide.range {α : Type} {p : Nat} {ws : List Int} (W : Wide L xs c p ws) (f : Nat → α) : ((List.range (xs.length + 1)).filter fun i => !decide (ext L ws i = c)).map f = (List.range xs.length).map fun j => f (Gm.sig xs.length p j) := by
  have hp := W.le
  have e1 : List.range (xs.length + 1) = List.range p ++ p :: (List.range (xs.length - p)).map fun i => p + 1 + i := by
    rw [show xs.length + 1 = p + (1 + (xs.length - p)) by omega, List.range_add, List.range_add, List.map_append, List.map_map]
    simp [Nat.add_assoc, Function.comp_def]
  have e2 : List.range xs.length = List.range p ++ (List.range (xs.length - p)).map fun i => p + i := by
    conv => lhs; rw [show xs.length = p + (xs.length - p) by omega, List.range_add]
  have R := W.row
  have ne : ∀ i, i < ws.length → i ≠ p → ext L ws i ≠ c := by
    intro i hi hip w
    rw [← W.at_] at w
    have lp : p < ws.length := by rw [W.len]; omega
    rw [ext_lt hi, ext_lt lp] at w
    rcases Nat.lt_or_gt_of_ne hip with q | q
    · have := getD_lt R.lt q lp
      omega
    · have := getD_lt R.lt q hi
      omega
  rw [e1, e2, List.filter_append, List.filter_cons, W.at_]
  have f1 : (List.range p).filter (fun i => !decide (ext L ws i = c)) = List.range p := by
    rw [List.filter_eq_self]
    intro i hi
    have := List.mem_range.mp hi
    simpa using ne i (by rw [W.len]; omega) (by omega)
  have f2 : ((List.range (xs.length - p)).map fun i => p + 1 + i).filter (fun i => !decide (ext L ws i = c)) = (List.range (xs.length - p)).map fun i => p + 1 + i := by
    rw [List.filter_eq_self]
    intro i hi
    obtain ⟨k, hk, rfl⟩ := List.mem_map.mp hi
    have := List.mem_range.mp hk
    simpa using ne (p + 1 + k) (by rw [W.len]; omega) (by omega)
  rw [f1, f2, if_neg (by simp), List.map_append, List.map_append, List.map_map, List.map_map]
  have g1 : (List.range p).map f = (List.range p).map fun j => f (Gm.sig xs.length p j) := List.map_congr_left fun j hj => by
    rw [sig_lt hp (List.mem_range.mp hj)]
  rw [g1]
  refine congrArg _ (List.map_congr_left fun k hk => ?_)
  have := List.mem_range.mp hk
  show f (p + 1 + k) = f (Gm.sig xs.length p (p + k))
  rw [sig_ge hp (by omega) (by omega), show p + 1 + k = p + k + 1 by omega]
end Gm
end
section
set_option autoImplicit false
set_option linter.all false
set_option maxRecDepth 100000
namespace Gc
open PySem Mi
open Gm (nextsP gapsP movedP nextP rowT Runs Backs xx ext bb wm rowOf Row sm Wide sig)
variable {M M' M2 : Mst} {L r : Int} {xs : List Int}
theorem row_rng : xs.map D.int = (List.range xs.length).map fun j => D.int (ext L xs j) := by
  conv => lhs; rw [Gm.self_range (L := L) (xs := xs), List.map_map]
  rfl
theorem gone_rng (T : Nat) : (goneP L r xs T).map D.int = (List.range xs.length).map fun j => D.int (xx r (ext L xs) T j - ext L xs j) := by
  unfold goneP
  rw [List.map_map]
  rfl
theorem items_rowR (L : Int) (xs : List Int) : items (row xs) = some ((List.range xs.length).map fun j => D.int (ext L xs j)) := congrArg some row_rng
theorem items_gone (T : Nat) : items (row (goneP L r xs T)) = some ((List.range xs.length).map fun j => D.int (xx r (ext L xs) T j - ext L xs j)) := congrArg some (gone_rng T)
def wideP (xs : List Int) (c : Int) : List Int := sortI (xs ++ [c])
theorem wide_at (h : RR L r xs) {c : Int} (h0 : 0 ≤ c) (h1 : c < L) (hc : c ∉ xs) : ∃ p, Wide L xs c p (wideP xs c) := Gm.wide_of h.good h0 h1 hc
/-- how far less each went with one more cart -/
def lessP (L r : Int) (xs ws : List Int) (p T : Nat) : List Int := (List.range xs.length).map fun j => xx r (ext L xs) T j - xx r (ext L ws) T (sig xs.length p j)
theorem add_tups {xs ys : List D} (h : xs.length + ys.length ≤ line) : binD .add (.tup xs) (.tup ys) = some (.tup (xs ++ ys)) := by simp [binD, addD, h]
theorem wider_ok (h : RR L r xs) (c : Int) : binD .add (row xs) (.tup [.int c]) = some (.tup ((xs ++ [c]).map .int)) := by
  have := h.few
  unfold row
  rw [add_tups (by simp [line]; omega), List.map_append]
  rfl
theorem sorted_tup (xs : List Int) : b1D .sorted (.tup (xs.map .int)) = some (.lst ((sortI xs).map .int)) := by
  show (items (.tup (xs.map .int))).bind sortD = _
  show sortD (xs.map .int) = _
  rw [show sortD (xs.map .int) = b1D .sorted (.lst (xs.map .int)) from rfl, sorted_ints]
theorem wide3 (h : RR L r xs) (c : Int) : ∃ u v, binD .add (row xs) (.tup [.int c]) = some u ∧ b1D .sorted u = some v ∧ b1D .tuple v = some (row (wideP xs c)) := ⟨_, _, wider_ok h c, sorted_tup _, rfl⟩
theorem wide_tuple (ws : List Int) : b1D .tuple (.lst (ws.map .int)) = some (row ws) := rfl
theorem all_later_ok (h : RR L r xs) {c : Int} {p T : Nat} (W : Wide L xs c p (wideP xs c)) (hT : (T : Int) ≤ 1000000000000000000) : f_all_later [rgD L r, row xs, .int c, .int (T : Nat)] M = .ok (row (lessP L r xs (wideP xs c) p T)) M := by
  show runDef (tbl T_all_later) 9 b_all_later _ M = _
  rw [run_eq]
  have h2 : RR L r (wideP xs c) := ⟨h.ring, W.row⟩
  have a1 : f_all_gone [rgD L r, row xs, .int (T : Nat)] M = .ok (row (goneP L r xs T)) M := all_gone_ok h hT
  have a2 : f_all_gone [rgD L r, row (wideP xs c), .int (T : Nat)] M = .ok (row (goneP L r (wideP xs c) T)) M := all_gone_ok h2 hT
  obtain ⟨u, v, w1, w2, w3⟩ := wide3 h c
  have hl := W.len
  have hs := W.sig
  have hrange : ∀ f : Nat → D, _ := fun f => W.range f
  unfold b_all_later
  simp only [List.map_cons, List.map_nil, List.length_cons, List.length_nil, List.cons_append, List.nil_append]
  rw [show List.replicate (9 - (0 + 1 + 1 + 1 + 1)) Slot.no = [Slot.no, .no, .no, .no, .no] from rfl]
  refine fin_step (ρ' := [.v (rgD L r), .v (row xs), .v (.int c), .v (.int (T : Nat)), .v (row (wideP xs c)), .no, .no, .no, .no]) (M' := M) (by simp -implicitDefEqProofs [w1, w2, w3]) ?_
  generalize wideP xs c = ws at *
  refine fin_step (ρ' := [.v (rgD L r), .v (row xs), .v (.int c), .v (.int (T : Nat)), .v (row ws), .v (.lst ((List.range xs.length).map fun j => D.int (xx r (ext L ws) T (sig xs.length p j) - ext L xs j))), .no, .no, .no]) (M' := M) ?_ ?_
  · have ez : MI.den (tbl T_all_later) (.zip (.var 4) (.call 16 (.cons (.var 0) (.cons (.var 4) (.cons (.var 3) .nil))))) [.v (rgD L r), .v (row xs), .v (.int c), .v (.int (T : Nat)), .v (row ws), .no, .no, .no, .no] M = .ok ((List.range (xs.length + 1)).map fun j => D.tup [.int (ext L ws j), .int (xx r (ext L ws) T j - ext L ws j)]) M := by
      have i1 := items_rowR L ws
      have i2 := items_gone (L := L) (r := r) (xs := ws) T
      rw [hl] at i1 i2
      generalize row (goneP L r ws T) = G at a2 i2
      generalize row ws = W at a2 i1 ⊢
      simp -implicitDefEqProofs [a2, i2, i1, zip_rngD]
    rw [den_set, compIf_cf, ez, bind_ok_, compD_filI (h := fun j => D.tup [.int (ext L ws j), .int (xx r (ext L ws) T j - ext L ws j)]) (p := fun i => !decide (ext L ws i = c)) (g := fun j => D.int (xx r (ext L ws) T j - ext L ws j)), bind_ok_, toS_ok_]
    · rw [hrange]
      simp only [hs]
      rfl
    · intro j hj
      by_cases q : ext L ws j = c <;> simp -implicitDefEqProofs [cfF, q]
  have ez : MI.den (tbl T_all_later) (.zip (.call 16 (.cons (.var 0) (.cons (.var 1) (.cons (.var 3) .nil)))) (.var 5)) [.v (rgD L r), .v (row xs), .v (.int c), .v (.int (T : Nat)), .v (row ws), .v (.lst ((List.range xs.length).map fun j => D.int (xx r (ext L ws) T (sig xs.length p j) - ext L xs j))), .no, .no, .no] M = .ok ((List.range xs.length).map fun j => D.tup [.int (xx r (ext L xs) T j - ext L xs j), .int (xx r (ext L ws) T (sig xs.length p j) - ext L xs j)]) M := by
    have i2 := items_gone (L := L) (r := r) (xs := xs) T
    generalize row (goneP L r xs T) = G at a1 i2
    simp -implicitDefEqProofs [a1, i2, zip_rngD]
  rw [dens_cons, den_ret, den_b1, comp_el, ez, bind_ok_, compD_mapI (g := fun j => D.int (xx r (ext L xs) T j - xx r (ext L ws) T (sig xs.length p j))), bind_ok_, bind_ok_]
  · show _ = R.ok (D.tup (((List.range xs.length).map fun j => xx r (ext L xs) T j - xx r (ext L ws) T (sig xs.length p j)).map D.int)) M
    rw [List.map_map]
    rfl
  · intro j hj
    simp -implicitDefEqProofs [elF]
    omega
theorem law_less_ok (h : RR L r xs) {c : Int} {p T : Nat} (W : Wide L xs c p (wideP xs c)) (hT : T ≤ 100000) : f__law_less [rgD L r, row xs, .int c, .int (T : Nat)] M = .ok (row (lessP L r xs (wideP xs c) p T)) M := by
  show runDef (tbl T__law_less) 12 b__law_less _ M = _
  rw [run_eq]
  have h2 : RR L r (wideP xs c) := ⟨h.ring, W.row⟩
  have a1 : f__law_walk [rgD L r, row xs, .int (T : Nat)] M = .ok (.lst ((List.range (T + 1)).map (posD L r xs))) M := walk_ok h (by omega)
  have a2 : f__law_walk [rgD L r, row (wideP xs c), .int (T : Nat)] M = .ok (.lst ((List.range (T + 1)).map (posD L r (wideP xs c)))) M := walk_ok h2 (by omega)
  have l1 : subD M (.lst ((List.range (T + 1)).map (posD L r xs))) (.int (-1)) = some (posD L r xs T) := atM1 _
  have l2 : subD M (.lst ((List.range (T + 1)).map (posD L r (wideP xs c)))) (.int (-1)) = some (posD L r (wideP xs c) T) := atM1 _
  obtain ⟨u, v, w1, w2, w3⟩ := wide3 h c
  have hl := W.len
  have hs := W.sig
  have hrange : ∀ f : Nat → D, _ := fun f => W.range f
  unfold b__law_less
  simp only [List.map_cons, List.map_nil, List.length_cons, List.length_nil, List.cons_append, List.nil_append]
  rw [show List.replicate (12 - (0 + 1 + 1 + 1 + 1)) Slot.no = [Slot.no, .no, .no, .no, .no, .no, .no, .no] from rfl]
  refine fin_step (ρ' := [.v (rgD L r), .v (row xs), .v (.int c), .v (.int (T : Nat)), .v (row (wideP xs c)), .no, .no, .no, .no, .no, .no, .no]) (M' := M) (by simp -implicitDefEqProofs [w1, w2, w3]) ?_
  generalize wideP xs c = ws at *
  refine fin_step (ρ' := [.v (rgD L r), .v (row xs), .v (.int c), .v (.int (T : Nat)), .v (row ws), .no, .v (posD L r ws T), .v (posD L r xs T), .no, .no, .no, .no]) (M' := M) ?_ ?_
  · generalize (D.lst ((List.range (T + 1)).map (posD L r xs))) = P1 at *
    generalize (D.lst ((List.range (T + 1)).map (posD L r ws))) = P2 at *
    simp -implicitDefEqProofs [a1, a2, l1, l2]
  refine fin_step (ρ' := [.v (rgD L r), .v (row xs), .v (.int c), .v (.int (T : Nat)), .v (row ws), .v (.lst ((List.range xs.length).map fun j => D.int (xx r (ext L ws) T (sig xs.length p j)))), .v (posD L r ws T), .v (posD L r xs T), .no, .no, .no, .no]) (M' := M) ?_ ?_
  · have ez : MI.den (tbl T__law_less) (.zip (.var 6) (.var 4)) [.v (rgD L r), .v (row xs), .v (.int c), .v (.int (T : Nat)), .v (row ws), .no, .v (posD L r ws T), .v (posD L r xs T), .no, .no, .no, .no] M = .ok ((List.range (xs.length + 1)).map fun j => D.tup [.int (xx r (ext L ws) T j), .int (ext L ws j)]) M := by
      have i1 : items (posD L r ws T) = some ((List.range ws.length).map fun j => D.int (xx r (ext L ws) T j)) := rfl
      have i2 := items_rowR L ws
      rw [hl] at i1 i2
      generalize row ws = W at i2 ⊢
      simp -implicitDefEqProofs [i1, i2, zip_rngD]
    rw [den_set, compIf_cf, ez, bind_ok_, compD_filI (h := fun j => D.tup [.int (xx r (ext L ws) T j), .int (ext L ws j)]) (p := fun i => !decide (ext L ws i = c)) (g := fun j => D.int (xx r (ext L ws) T j)), bind_ok_, toS_ok_]
    · rw [hrange]
      rfl
    · intro j hj
      by_cases q : ext L ws j = c <;> simp -implicitDefEqProofs [cfF, q]
  have ez : MI.den (tbl T__law_less) (.zip (.var 7) (.var 5)) [.v (rgD L r), .v (row xs), .v (.int c), .v (.int (T : Nat)), .v (row ws), .v (.lst ((List.range xs.length).map fun j => D.int (xx r (ext L ws) T (sig xs.length p j)))), .v (posD L r ws T), .v (posD L r xs T), .no, .no, .no, .no] M = .ok ((List.range xs.length).map fun j => D.tup [.int (xx r (ext L xs) T j), .int (xx r (ext L ws) T (sig xs.length p j))]) M := by
    have i1 : items (posD L r xs T) = some ((List.range xs.length).map fun j => D.int (xx r (ext L xs) T j)) := rfl
    simp -implicitDefEqProofs [i1, zip_rngD]
  rw [dens_cons, den_ret, den_b1, comp_el, ez, bind_ok_, compD_mapI (g := fun j => D.int (xx r (ext L xs) T j - xx r (ext L ws) T (sig xs.length p j))), bind_ok_, bind_ok_]
  · show _ = R.ok (D.tup (((List.range xs.length).map fun j => xx r (ext L xs) T j - xx r (ext L ws) T (sig xs.length p j)).map D.int)) M
    rw [List.map_map]
    rfl
  · intro j hj
    simp -implicitDefEqProofs [elF]
theorem less_low (h : RR L r xs) {c : Int} {p T : Nat} (W : Wide L xs c p (wideP xs c)) : ∀ z ∈ lessP L r xs (wideP xs c) p T, 0 ≤ z := by
  intro z hz
  obtain ⟨j, hj, rfl⟩ := List.mem_map.mp hz
  have := W.later h.r0 T j
  omega
theorem in_row (c : Int) : cmpD .inn (.int c) (row xs) = some (decide (c ∈ xs)) := by
  show inD (.int c) (.tup (xs.map .int)) = _
  unfold inD
  simp only [ints_map]
theorem nin_row (c : Int) : cmpD .nin (.int c) (row xs) = some (!decide (c ∈ xs)) := by
  show (inD (.int c) (row xs)).map _ = _
  rw [show inD (.int c) (row xs) = cmpD .inn (.int c) (row xs) from rfl, in_row]
  rfl
theorem later_ok (h : RR L r xs) {c : Int} {p T : Nat} (h0 : 0 ≤ c) (h1 : c < L) (hc : c ∉ xs) (W : Wide L xs c p (wideP xs c)) (hT : (T : Int) ≤ 1000000000000000000) : f_later [rgD L r, row xs, .int c, .int (T : Nat)] M = .ok (row (lessP L r xs (wideP xs c) p T)) M := by
  show runDef (tbl T_later) 4 b_later _ M = _
  rw [run_eq]
  have a1 : f_all_later [rgD L r, row xs, .int c, .int (T : Nat)] M = .ok (row (lessP L r xs (wideP xs c) p T)) M := all_later_ok h W hT
  have a2 : f_need_moment [.int (T : Nat)] M = .ok .non M := need_moment_ok ⟨by omega, hT⟩
  have a3 : c ≤ L - 1 := by omega
  simp -implicitDefEqProofs [b_later, need_row_ok h.ring h.good, is_whole_int, h0, a3, in_row, hc, a1, a2]
theorem rng_ints {L : Int} : rngI 0 L = ((List.range L.toNat).map fun i : Nat => (i : Int)).map .int := rngI_int
/-- the cells on which none stands -/
def freeP (L : Int) (xs : List Int) : List Int := ((List.range L.toNat).map fun i : Nat => (i : Int)).filter fun c => !decide (c ∈ xs)
theorem free_mem {c : Int} (hL : 0 ≤ L) : c ∈ freeP L xs ↔ 0 ≤ c ∧ c < L ∧ c ∉ xs := by
  unfold freeP
  rw [List.mem_filter, List.mem_map]
  constructor
  · rintro ⟨⟨i, hi, rfl⟩, h2⟩
    have := List.mem_range.mp hi
    exact ⟨by omega, by omega, by simpa using h2⟩
  · rintro ⟨h0, h1, h2⟩
    exact ⟨⟨c.toNat, List.mem_range.mpr (by omega), by omega⟩, by simpa using h2⟩
/-- by how much all together, and where -/
theorem less_at (h : RR L r xs) : ∃ P : Int → Nat, ∀ c ∈ freeP L xs, Wide L xs c (P c) (wideP xs c) := by
  have key : ∀ c : Int, ∃ p : Nat, c ∈ freeP L xs → Wide L xs c p (wideP xs c) := by
    intro c
    by_cases q : c ∈ freeP L xs
    · obtain ⟨h0, h1, h2⟩ := (free_mem (by have := h.L0; omega)).mp q
      obtain ⟨p, W⟩ := wide_at h h0 h1 h2
      exact ⟨p, fun _ => W⟩
    · exact ⟨0, fun w => absurd w q⟩
  exact ⟨fun c => (key c).choose, fun c hc => (key c).choose_spec hc⟩
theorem worst_ok (h : RR L r xs) {P : Int → Nat} (hP : ∀ c ∈ freeP L xs, Wide L xs c (P c) (wideP xs c)) {T : Nat} (hT : (T : Int) ≤ 1000000000000000000) {a b : Int} (hm : b1D .max (.lst ((freeP L xs).map fun c => D.tup [.int (lessP L r xs (wideP xs c) (P c) T).sum, .int (-c)])) = some (.tup [.int a, .int b])) (hne : freeP L xs ≠ []) : f_worst [rgD L r, row xs, .int (T : Nat)] M = .ok (.tup [.int a, .int (-b)]) M := by
  show runDef (tbl T_worst) 7 b_worst _ M = _
  rw [run_eq]
  have hL := h.ring.L
  have e1 : f_need_all [rgD L r, row xs, .int (T : Nat)] M = .ok .non M := need_all_ok h hT
  have e3 : rngOk 0 L = true := rngOk_0 (by omega) (by omega)
  unfold b_worst
  simp only [List.map_cons, List.map_nil, List.length_cons, List.length_nil, List.cons_append, List.nil_append]
  rw [show List.replicate (7 - (0 + 1 + 1 + 1)) Slot.no = [Slot.no, .no, .no, .no] from rfl]
  refine fin_step (ρ' := [.v (rgD L r), .v (row xs), .v (.int (T : Nat)), .no, .no, .no, .no]) (M' := M) (by simp -implicitDefEqProofs [e1]) ?_
  refine fin_step (ρ' := [.v (rgD L r), .v (row xs), .v (.int (T : Nat)), .v (.lst ((freeP L xs).map .int)), .no, .no, .no]) (M' := M) ?_ ?_
  · have ei : MI.den (tbl T_worst) (.rng (.sub (.var 0) (.int 0))) [.v (rgD L r), .v (row xs), .v (.int (T : Nat)), .no, .no, .no, .no] M = .ok (((List.range L.toNat).map fun i : Nat => (i : Int)).map .int) M := by
      rw [← rng_ints]
      simp -implicitDefEqProofs [e3]
    rw [den_set, compIf_cf, ei, bind_ok_, fil_ints (p := fun c => !decide (c ∈ xs)), bind_ok_, toS_ok_]
    · rfl
    · intro c hc
      by_cases q : c ∈ xs <;> simp -implicitDefEqProofs [cfF, nin_row, q]
  refine fin_step (ρ' := [.v (rgD L r), .v (row xs), .v (.int (T : Nat)), .v (.lst ((freeP L xs).map .int)), .no, .no, .no]) (M' := M) ?_ ?_
  · have := eq_nil (freeP L xs)
    rw [decide_eq_false hne] at this
    generalize (D.lst ((freeP L xs).map .int)) = F at this ⊢
    simp -implicitDefEqProofs [this]
  have e8 : ME.den (tbl T_worst) (.b1 .max (.comp (.tup (.cons (.b1 .sum (.call 23 (.cons (.var 0) (.cons (.var 1) (.cons (.var 6) (.cons (.var 2) .nil)))))) (.cons (.neg (.var 6)) .nil))) [6] (.seq (.var 3)))) [.v (rgD L r), .v (row xs), .v (.int (T : Nat)), .v (.lst ((freeP L xs).map .int)), .no, .no, .no] M = .ok (.tup [.int a, .int b]) M := by
    have ei : MI.den (tbl T_worst) (.seq (.var 3)) [.v (rgD L r), .v (row xs), .v (.int (T : Nat)), .v (.lst ((freeP L xs).map .int)), .no, .no, .no] M = .ok ((freeP L xs).map .int) M := rfl
    rw [den_b1, comp_el, ei, bind_ok_, compD_mapI (g := fun c => D.tup [.int (lessP L r xs (wideP xs c) (P c) T).sum, .int (-c)]), bind_ok_, bind_ok_, hm]
    · rfl
    · intro c hc
      have a1 : f_all_later [rgD L r, row xs, .int c, .int (T : Nat)] M = .ok (row (lessP L r xs (wideP xs c) (P c) T)) M := all_later_ok h (hP c hc) hT
      have a2 := sum_row (lessP L r xs (wideP xs c) (P c) T)
      generalize row (lessP L r xs (wideP xs c) (P c) T) = W at a1 a2
      simp -implicitDefEqProofs [elF, a1, a2]
  refine fin_step (ρ' := [.v (rgD L r), .v (row xs), .v (.int (T : Nat)), .v (.lst ((freeP L xs).map .int)), .v (.int a), .v (.int b), .no]) (M' := M) ?_ ?_
  · rw [den_asT, e8]
    simp
  simp
/-- a row of all cells -/
def fullP (L : Int) : List Int := (List.range L.toNat).map fun i : Nat => (i : Int)
theorem full_row (h : Ring L r) : RR L r (fullP L) := by
  have hL := h.L
  refine ⟨h, fun e => ?_, ?_, fun x hx => ?_⟩
  · have := congrArg List.length e
    unfold fullP at this
    simp at this
    omega
  · unfold fullP
    rw [List.pairwise_map]
    exact List.pairwise_lt_range.imp fun w => by omega
  · obtain ⟨i, hi, rfl⟩ := List.mem_map.mp hx
    have := List.mem_range.mp hi
    omega
theorem full_none (hL : 0 ≤ L) : freeP L (fullP L) = [] := by
  refine List.eq_nil_iff_forall_not_mem.mpr fun c hc => ?_
  obtain ⟨h0, h1, h2⟩ := (free_mem hL).mp hc
  exact h2 (List.mem_map.mpr ⟨c.toNat, List.mem_range.mpr (by omega), by omega⟩)
theorem full_len : (fullP L).length = L.toNat := by simp [fullP]
theorem full_ext (h : Ring L r) (j : Nat) : ext L (fullP L) j = (j : Int) := by
  have hL := h.L
  have key := Gm.ext_win (f := fun j : Nat => (j : Int)) (n := L.toNat) (L := L) (fun j => by omega) (by omega) j
  exact key
theorem full_gone (h : Ring L r) (T : Nat) : goneP L r (fullP L) T = List.replicate L.toNat 0 := by
  have hr := h.r
  have e : ∀ j, xx r (ext L (fullP L)) T j = (j : Int) := fun j => by
    have := Gm.xx_of (r := r) (a := ext L (fullP L)) (fun _ j => (j : Int)) (fun j => (full_ext h j).symm) (fun t j => by omega) T j
    exact this.symm
  unfold goneP
  rw [full_len]
  refine List.ext_getElem (by simp) fun j h1 h2 => ?_
  rw [List.getElem_map, List.getElem_range, List.getElem_replicate, e, full_ext h]
  omega
theorem need_cell_bad (h : RR L r xs) {d : D} (t : D) (q : ∀ M, f_is_whole [d, .int 0, .int (L - 1)] M = .ok (.bl false) M) : f_later [rgD L r, row xs, d, t] M = .exc 3 M := by
  show runDef (tbl T_later) 4 b_later _ M = _
  rw [run_eq]
  simp -implicitDefEqProofs [b_later, need_row_ok h.ring h.good, q M, finD]
theorem later_in (h : RR L r xs) {c : Int} (hc : c ∈ xs) (t : D) : f_later [rgD L r, row xs, .int c, t] M = .exc 3 M := by
  show runDef (tbl T_later) 4 b_later _ M = _
  rw [run_eq]
  have h0 := (h.good.lo c hc).1
  have h1 := (h.good.lo c hc).2
  have a3 : c ≤ L - 1 := by omega
  simp -implicitDefEqProofs [b_later, need_row_ok h.ring h.good, is_whole_int, h0, a3, in_row, hc, finD]
theorem later_bad (h : RR L r xs) {c : Int} (h0 : 0 ≤ c) (h1 : c < L) (hc : c ∉ xs) {d : D} (q : BadT d) : f_later [rgD L r, row xs, .int c, d] M = .exc 2 M := by
  show runDef (tbl T_later) 4 b_later _ M = _
  rw [run_eq]
  have a3 : c ≤ L - 1 := by omega
  simp -implicitDefEqProofs [b_later, need_row_ok h.ring h.good, is_whole_int, h0, a3, in_row, hc, q M, finD]
theorem worst_bad (h : RR L r xs) {d : D} (q : BadT d) : f_worst [rgD L r, row xs, d] M = .exc 2 M := by
  show runDef (tbl T_worst) 7 b_worst _ M = _
  rw [run_eq]
  simp -implicitDefEqProofs [b_worst, need_all_bad h q, finD]
theorem worst_none (h : RR L r xs) (he : freeP L xs = []) {T : Nat} (hT : (T : Int) ≤ 1000000000000000000) : f_worst [rgD L r, row xs, .int (T : Nat)] M = .exc 6 M := by
  show runDef (tbl T_worst) 7 b_worst _ M = _
  rw [run_eq]
  have hL := h.ring.L
  have e1 : f_need_all [rgD L r, row xs, .int (T : Nat)] M = .ok .non M := need_all_ok h hT
  have e3 : rngOk 0 L = true := rngOk_0 (by omega) (by omega)
  unfold b_worst
  simp only [List.map_cons, List.map_nil, List.length_cons, List.length_nil, List.cons_append, List.nil_append]
  rw [show List.replicate (7 - (0 + 1 + 1 + 1)) Slot.no = [Slot.no, .no, .no, .no] from rfl]
  refine fin_step (ρ' := [.v (rgD L r), .v (row xs), .v (.int (T : Nat)), .no, .no, .no, .no]) (M' := M) (by simp -implicitDefEqProofs [e1]) ?_
  refine fin_step (ρ' := [.v (rgD L r), .v (row xs), .v (.int (T : Nat)), .v (.lst ((freeP L xs).map .int)), .no, .no, .no]) (M' := M) ?_ ?_
  · have ei : MI.den (tbl T_worst) (.rng (.sub (.var 0) (.int 0))) [.v (rgD L r), .v (row xs), .v (.int (T : Nat)), .no, .no, .no, .no] M = .ok (((List.range L.toNat).map fun i : Nat => (i : Int)).map .int) M := by
      rw [← rng_ints]
      simp -implicitDefEqProofs [e3]
    rw [den_set, compIf_cf, ei, bind_ok_, fil_ints (p := fun c => !decide (c ∈ xs)), bind_ok_, toS_ok_]
    · rfl
    · intro c hc
      by_cases q : c ∈ xs <;> simp -implicitDefEqProofs [cfF, nin_row, q]
  have := eq_nil (freeP L xs)
  rw [decide_eq_true he] at this
  generalize (D.lst ((freeP L xs).map .int)) = F at this ⊢
  simp -implicitDefEqProofs [this, finD]
end Gc
end
section
set_option autoImplicit false
set_option linter.all false
/-! how many rows come to a row in a beat: ways round -/
namespace Gm
section
variable {r : Int}
/-- how far a cart may have gone, by its gap now and how far the one ahead went -/
def gb (r g a : Int) : List Int := if a > g then [] else if a = g then (List.range (r + 1).toNat).map fun i : Nat => (i : Int) else [r]
theorem mem_gb (hr : 0 ≤ r) {g a w : Int} : w ∈ gb r g a ↔ a ≤ g ∧ 0 ≤ w ∧ w ≤ r ∧ (a < g → w = r) := by
  unfold gb
  split
  · rename_i h
    simp
    omega
  · split
    · rename_i h1 h2
      rw [List.mem_map]
      constructor
      · rintro ⟨i, hi, rfl⟩
        rw [List.mem_range] at hi
        omega
      · rintro ⟨h3, h4, h5, h6⟩
        exact ⟨w.toNat, List.mem_range.mpr (by omega), by omega⟩
    · rename_i h1 h2
      rw [List.mem_singleton]
      omega
theorem gb_nodup (r g a : Int) : (gb r g a).Nodup := by
  unfold gb
  split
  · exact List.nodup_nil
  · split
    · exact List.pairwise_map.mpr ((List.nodup_range (n := (r + 1).toNat)).imp fun h e => h (by omega))
    · simp
theorem gb_len (hr : r ≤ 3) (g a : Int) : (gb r g a).length ≤ 4 := by
  unfold gb
  split
  · simp
  · split
    · simp
      omega
    · simp
/-! sums -/
theorem sm_zero (n : Nat) : sm n (fun _ => 0) = 0 := by rw [sm_const]; omega
theorem sm_comm (n m : Nat) (f : Nat → Nat → Int) : sm n (fun i => sm m fun j => f i j) = sm m fun j => sm n fun i => f i j := by
  induction n with
  | zero => show 0 = _; rw [show (fun j => sm 0 fun i => f i j) = fun _ => 0 from rfl, sm_zero]
  | succ n ih =>
    show sm n (fun i => sm m fun j => f i j) + sm m (fun j => f n j) = _
    rw [ih, ← sm_add]
    rfl
theorem sm_mul (n : Nat) (f : Nat → Int) (c : Int) : sm n (fun i => f i * c) = sm n f * c := by
  induction n with
  | zero => show 0 = 0 * c; omega
  | succ n ih =>
    show sm n (fun i => f i * c) + f n * c = (sm n f + f n) * c
    rw [ih, Int.add_mul]
theorem sm_pick {n a : Nat} (h : a < n) (f : Nat → Int) : sm n (fun c => if a = c then f c else 0) = f a := by
  induction n with
  | zero => omega
  | succ n ih =>
    show sm n (fun c => if a = c then f c else 0) + (if a = n then f n else 0) = f a
    by_cases q : a = n
    · subst q
      rw [if_pos rfl, sm_congr (g := fun _ => 0) (fun j hj => if_neg (by omega)), sm_zero]
      omega
    · rw [if_neg q, ih (by omega)]
      omega
/-- how many ways from b to a -/
def cnt (r : Int) : List Int → Int → Int → Int
  | [], a, b => if a = b then 1 else 0
  | g :: gs, a, b => sm (r + 1).toNat fun c => if a ∈ gb r g (c : Int) then cnt r gs (c : Int) b else 0
def total (r : Int) (gs : List Int) : Int := sm (r + 1).toNat fun b => cnt r gs (b : Int) (b : Int)
theorem cnt_app (hr : 0 ≤ r) (qs : List Int) (b : Int) : ∀ (ps : List Int) (a : Int), 0 ≤ a → a ≤ r → cnt r (ps ++ qs) a b = sm (r + 1).toNat fun c => cnt r ps a (c : Int) * cnt r qs (c : Int) b
  | [], a, h0, h1 => by
    obtain ⟨i, rfl⟩ : ∃ i : Nat, a = (i : Int) := ⟨a.toNat, by omega⟩
    rw [List.nil_append]
    have := sm_pick (n := (r + 1).toNat) (a := i) (by omega) fun c => cnt r qs (c : Int) b
    rw [← this]
    refine sm_congr fun c _ => ?_
    unfold cnt
    by_cases q : i = c
    · rw [if_pos q, if_pos (by omega)]
      omega
    · rw [if_neg q, if_neg (by omega)]
      omega
  | g :: ps, a, h0, h1 => by
    rw [List.cons_append]
    show (sm (r + 1).toNat fun d => if a ∈ gb r g (d : Int) then cnt r (ps ++ qs) (d : Int) b else 0) = _
    have e1 : ∀ d, d < (r + 1).toNat → (if a ∈ gb r g (d : Int) then cnt r (ps ++ qs) (d : Int) b else 0) = sm (r + 1).toNat fun c => (if a ∈ gb r g (d : Int) then cnt r ps (d : Int) (c : Int) else 0) * cnt r qs (c : Int) b := fun d hd => by
      by_cases q : a ∈ gb r g (d : Int)
      · rw [if_pos q, cnt_app hr qs b ps d (by omega) (by omega)]
        exact sm_congr fun c _ => by rw [if_pos q]
      · rw [if_neg q, sm_congr (g := fun _ => 0) (fun c _ => by rw [if_neg q]; omega), sm_zero]
    rw [sm_congr e1, sm_comm]
    refine sm_congr fun c _ => ?_
    rw [sm_mul]
    rfl
theorem total_comm (hr : 0 ≤ r) (ps qs : List Int) : total r (ps ++ qs) = total r (qs ++ ps) := by
  unfold total
  rw [sm_congr (fun b hb => cnt_app hr qs (b : Int) ps b (by omega) (by omega)), sm_congr (fun b hb => cnt_app hr ps (b : Int) qs b (by omega) (by omega)), sm_comm]
  exact sm_congr fun c _ => sm_congr fun b _ => Int.mul_comm _ _
theorem total_rot (hr : 0 ≤ r) {n : Nat} (hn : 0 < n) {G : Nat → Int} (hp : ∀ j, G (j + n) = G j) : ∀ s, total r ((List.range n).map fun j => G (j + s)) = total r ((List.range n).map G)
  | 0 => rfl
  | s + 1 => by
    rw [← total_rot hr hn hp s]
    obtain ⟨m, rfl⟩ : ∃ m, n = m + 1 := ⟨n - 1, by omega⟩
    have e1 : ((List.range (m + 1)).map fun j => G (j + s)) = [G s] ++ (List.range m).map fun j => G (j + (s + 1)) := by
      rw [List.range_succ_eq_map, List.map_cons, List.map_map]
      show G (0 + s) :: _ = G s :: _
      rw [Nat.zero_add]
      congr 1
      refine List.map_congr_left fun j _ => ?_
      show G (j + 1 + s) = _
      rw [show j + 1 + s = j + (s + 1) by omega]
    have e2 : ((List.range (m + 1)).map fun j => G (j + (s + 1))) = (List.range m).map (fun j => G (j + (s + 1))) ++ [G s] := by
      rw [List.range_succ, List.map_append]
      congr 1
      show [G (m + (s + 1))] = _
      rw [show m + (s + 1) = s + (m + 1) by omega, hp]
    rw [e1, e2, total_comm hr]
/-- by the way round alone -/
theorem total_rowOf {L : Int} {n : Nat} {y : Nat → Int} (Y : Rg L r n y) : total r (gapsP L (rowOf L n y)) = total r ((List.range n).map fun j => y (j + 1) - y j - 1) := by
  obtain ⟨s, q, h⟩ := ext_rowOf Y
  rw [gaps_range (rowOf_row Y).ne, rowOf_len]
  rw [show ((List.range n).map fun j => ext L (rowOf L n y) (j + 1) - ext L (rowOf L n y) j - 1) = (List.range n).map fun j => (fun i => y (i + 1) - y i - 1) (j + s) from List.map_congr_left fun j _ => by
    rw [h, h, show j + 1 + s = j + s + 1 by omega]
    show y (j + s + 1) - L * q - (y (j + s) - L * q) - 1 = y (j + s + 1) - y (j + s) - 1
    omega]
  exact total_rot Y.r0 Y.n0 (G := fun i => y (i + 1) - y i - 1) (gap_per Y) s
end
end Gm
end
section
set_option autoImplicit false
set_option linter.all false
set_option maxRecDepth 100000
namespace Gc
open PySem Mi
open Gm (nextsP gapsP movedP nextP rowT Runs Backs xx ext bb wm rowOf Row sm gb mem_gb cnt total)
variable {M M' M2 : Mst} {L r : Int} {xs : List Int}
theorem goes_before_ok (h1 : 0 ≤ r) (h2 : r ≤ 3) (g a : Int) : f_goes_before [.int r, .int g, .int a] M = .ok (.lst ((gb r g a).map .int)) M := by
  show runDef (tbl T_goes_before) 3 b_goes_before _ M = _
  rw [run_eq]
  have c1 : cmpD .gt (.int a) (.int g) = some (decide (g < a)) := rfl
  have c2 : cmpD .eq (.int a) (.int g) = some (decide (a = g)) := rfl
  have e3 : rngOk 0 (r + 1) = true := rngOk_0 (by omega) (by omega)
  unfold gb
  by_cases q1 : a > g
  · rw [if_pos q1]
    rw [decide_eq_true (show g < a from q1)] at c1
    simp -implicitDefEqProofs [b_goes_before, c1, finD]
  · rw [if_neg q1]
    rw [decide_eq_false (show ¬ g < a from q1)] at c1
    by_cases q2 : a = g
    · rw [if_pos q2]
      rw [decide_eq_true q2] at c2
      rw [← rng_ints]
      simp -implicitDefEqProofs [b_goes_before, c1, c2, e3, finD]
    · rw [if_neg q2]
      rw [decide_eq_false q2] at c2
      simp -implicitDefEqProofs [b_goes_before, c1, c2, finD]
/-! a dict of numbers -/
def dT (T : List (Int × Int)) : List (Int × D) := T.map fun p => (p.1, .int p.2)
def val (T : List (Int × Int)) (k : Int) : Int := ((T.find? fun p => decide (p.1 = k)).map (·.2)).getD 0
def put (T : List (Int × Int)) (k v : Int) : List (Int × Int) := if (T.any fun p => decide (p.1 = k)) = true then T.map (fun p => if p.1 = k then (p.1, v) else p) else T ++ [(k, v)]
theorem at_dT (k : Int) : ∀ T : List (Int × Int), atD (dT T) k = (T.find? fun p => decide (p.1 = k)).map fun p => D.int p.2
  | [] => rfl
  | p :: T => by
    have ih := at_dT k T
    unfold atD at ih ⊢
    show ((((p.1, D.int p.2) : Int × D) :: dT T).find? fun kv => decide (kv.1 = k)).map (·.2) = _
    rw [List.find?_cons, List.find?_cons]
    by_cases q : p.1 = k
    · simp [q]
    · simp [q, ih]
theorem at_getD (T : List (Int × Int)) (k : Int) : (atD (dT T) k).getD (.int 0) = .int (val T k) := by
  rw [at_dT]
  unfold val
  cases T.find? fun p => decide (p.1 = k) <;> rfl
theorem any_dT (k : Int) (T : List (Int × Int)) : ((dT T).any fun p => decide (p.1 = k)) = T.any fun p => decide (p.1 = k) := by
  unfold dT
  rw [List.any_map]
  rfl
theorem put_dT (T : List (Int × Int)) (k v : Int) : putD (dT T) k (.int v) = dT (put T k v) := by
  unfold putD put
  rw [any_dT]
  split
  · unfold dT
    rw [List.map_map, List.map_map]
    refine List.map_congr_left fun p _ => ?_
    show (if p.1 = k then (p.1, D.int v) else (p.1, D.int p.2)) = ((if p.1 = k then (p.1, v) else p).1, D.int (if p.1 = k then (p.1, v) else p).2)
    split <;> rfl
  · unfold dT
    rw [List.map_append]
    rfl
theorem val_cons (p : Int × Int) (T : List (Int × Int)) (k : Int) : val (p :: T) k = if p.1 = k then p.2 else val T k := by
  unfold val
  rw [List.find?_cons]
  by_cases q : p.1 = k <;> simp [q]
theorem val_none {T : List (Int × Int)} {k : Int} (h : k ∉ T.map (·.1)) : val T k = 0 := by
  induction T with
  | nil => rfl
  | cons p T ih =>
    rw [List.map_cons, List.mem_cons, not_or] at h
    rw [val_cons, if_neg (fun e => h.1 e.symm), ih h.2]
theorem val_at {T : List (Int × Int)} (nd : (T.map (·.1)).Nodup) {p : Int × Int} (h : p ∈ T) : val T p.1 = p.2 := by
  induction T with
  | nil => cases h
  | cons q T ih =>
    rw [List.map_cons, List.nodup_cons] at nd
    rw [val_cons]
    rcases List.mem_cons.mp h with rfl | h
    · rw [if_pos rfl]
    · rw [if_neg (fun e : q.1 = p.1 => nd.1 (by rw [e]; exact List.mem_map_of_mem (f := (·.1)) h)), ih nd.2 h]
theorem at_key {T : List (Int × Int)} (nd : (T.map (·.1)).Nodup) {p : Int × Int} (h : p ∈ T) : atD (dT T) p.1 = some (.int p.2) := by
  rw [at_dT]
  induction T with
  | nil => cases h
  | cons q T ih =>
    rw [List.map_cons, List.nodup_cons] at nd
    rw [List.find?_cons]
    rcases List.mem_cons.mp h with rfl | h
    · simp
    · have : q.1 ≠ p.1 := fun e => nd.1 (by rw [e]; exact List.mem_map_of_mem (f := (·.1)) h)
      simp [this]
      simpa using ih nd.2 h
theorem val_map (k v m : Int) : ∀ T : List (Int × Int), val (T.map fun p => if p.1 = k then (p.1, v) else p) m = if m = k ∧ k ∈ T.map (·.1) then v else val T m
  | [] => by simp [val]
  | p :: T => by
    rw [List.map_cons, val_cons, val_cons, val_map k v m T]
    by_cases q : p.1 = k
    · rw [if_pos q]
      by_cases q2 : p.1 = m
      · rw [if_pos q2, if_pos ⟨by omega, by rw [List.map_cons, List.mem_cons]; exact .inl q.symm⟩]
      · rw [if_neg q2, if_neg (fun z => q2 (by omega)), if_neg q2, if_neg (fun z => q2 (by omega))]
    · rw [if_neg q]
      by_cases q2 : p.1 = m
      · rw [if_pos q2, if_neg (fun z => q (by omega)), if_pos q2]
      · rw [if_neg q2, if_neg q2]
        by_cases q3 : m = k ∧ k ∈ T.map (·.1)
        · rw [if_pos q3, if_pos ⟨q3.1, by rw [List.map_cons]; exact List.mem_cons_of_mem _ q3.2⟩]
        · rw [if_neg q3, if_neg fun z => q3 ⟨z.1, by
            rcases List.mem_cons.mp (by simpa using z.2 : k ∈ p.1 :: T.map (·.1)) with e | e
            · exact absurd e.symm q
            · exact e⟩]
theorem val_app (k v m : Int) : ∀ T : List (Int × Int), k ∉ T.map (·.1) → val (T ++ [(k, v)]) m = if m = k then v else val T m
  | [], _ => by
    show val [(k, v)] m = _
    rw [val_cons]
    by_cases q : k = m
    · rw [if_pos q, if_pos q.symm]
    · rw [if_neg q, if_neg (fun e => q e.symm)]
  | p :: T, h => by
    rw [List.map_cons, List.mem_cons, not_or] at h
    rw [List.cons_append, val_cons, val_cons, val_app k v m T h.2]
    by_cases q2 : p.1 = m
    · rw [if_pos q2, if_pos q2, if_neg (fun e => h.1 (by omega))]
    · rw [if_neg q2, if_neg q2]
theorem val_put (T : List (Int × Int)) (k v m : Int) : val (put T k v) m = if m = k then v else val T m := by
  unfold put
  by_cases q : k ∈ T.map (·.1)
  · have : (T.any fun p => decide (p.1 = k)) = true := by
      obtain ⟨p, hp, e⟩ := List.mem_map.mp q
      exact List.any_eq_true.mpr ⟨p, hp, by simpa using e⟩
    rw [if_pos this, val_map]
    by_cases q2 : m = k
    · rw [if_pos ⟨q2, q⟩, if_pos q2]
    · rw [if_neg (fun z => q2 z.1), if_neg q2]
  · have : ¬ (T.any fun p => decide (p.1 = k)) = true := fun z => by
      obtain ⟨p, hp, e⟩ := List.any_eq_true.mp z
      exact q (List.mem_map.mpr ⟨p, hp, by simpa using e⟩)
    rw [if_neg this, val_app k v m T q]
theorem key_put (T : List (Int × Int)) (k v : Int) : (put T k v).map (·.1) = if k ∈ T.map (·.1) then T.map (·.1) else T.map (·.1) ++ [k] := by
  unfold put
  by_cases q : k ∈ T.map (·.1)
  · have : (T.any fun p => decide (p.1 = k)) = true := by
      obtain ⟨p, hp, e⟩ := List.mem_map.mp q
      exact List.any_eq_true.mpr ⟨p, hp, by simpa using e⟩
    rw [if_pos this, if_pos q, List.map_map]
    refine List.map_congr_left fun p _ => ?_
    show (if p.1 = k then (p.1, v) else p).1 = p.1
    split <;> rfl
  · have : ¬ (T.any fun p => decide (p.1 = k)) = true := fun z => by
      obtain ⟨p, hp, e⟩ := List.any_eq_true.mp z
      exact q (List.mem_map.mpr ⟨p, hp, by simpa using e⟩)
    rw [if_neg this, if_neg q, List.map_append]
    rfl
structure KeyS (r : Int) (T : List (Int × Int)) : Prop where
  nd : (T.map (·.1)).Nodup
  lo : ∀ k ∈ T.map (·.1), 0 ≤ k ∧ k ≤ r
theorem KeyS.put {T : List (Int × Int)} (h : KeyS r T) {k v : Int} (h0 : 0 ≤ k) (h1 : k ≤ r) : KeyS r (put T k v) := by
  refine ⟨?_, ?_⟩
  · rw [key_put]
    split
    · exact h.nd
    · rename_i q
      rw [List.nodup_append]
      exact ⟨h.nd, by simp, fun a ha b hb e => q (by rw [List.mem_singleton] at hb; rw [← hb, ← e]; exact ha)⟩
  · rw [key_put]
    intro j hj
    split at hj
    · exact h.lo j hj
    · rcases List.mem_append.mp hj with hj | hj
      · exact h.lo j hj
      · rw [List.mem_singleton] at hj
        omega
theorem KeyS.len {T : List (Int × Int)} (h : KeyS r T) (hr : r ≤ 3) : T.length ≤ 4 := by
  by_cases e : T = []
  · subst e
    simp
  · have R : Row (r + 1) (Gm.srt (T.map (·.1))) := by
      refine ⟨fun z => e ?_, Gm.srt_lt h.nd, fun x hx => ?_⟩
      · have := (Gm.srt_perm (T.map (·.1))).length_eq
        rw [z] at this
        have : T.length = 0 := by simpa using this.symm
        exact List.length_eq_zero_iff.mp this
      · have := h.lo x ((Gm.srt_perm _).mem_iff.mp hx)
        omega
    have hr0 : 0 ≤ r + 1 := by
      obtain ⟨p, hp⟩ := List.exists_mem_of_ne_nil _ e
      have := h.lo p.1 (List.mem_map_of_mem hp)
      omega
    have := row_few R hr0
    rw [(Gm.srt_perm _).length_eq, List.length_map] at this
    omega
/-- what the pairs of a dict come to -/
theorem sum_pairs {T : List (Int × Int)} (h : KeyS r T) (φ : Int → Int → Int) (h0 : ∀ k, φ k 0 = 0) : (T.map fun p => φ p.1 p.2).sum = sm (r + 1).toNat fun c => φ (c : Int) (val T (c : Int)) := by
  induction T with
  | nil =>
    rw [List.map_nil, List.sum_nil, Gm.sm_congr (g := fun _ => 0) (fun j _ => by show φ _ (val [] _) = 0; exact h0 _), Gm.sm_zero]
  | cons p T ih =>
    have nd := h.nd
    rw [List.map_cons, List.nodup_cons] at nd
    have hp := h.lo p.1 (by simp)
    have hT : KeyS r T := ⟨nd.2, fun k hk => h.lo k (by rw [List.map_cons]; exact List.mem_cons_of_mem _ hk)⟩
    obtain ⟨i, hi⟩ : ∃ i : Nat, p.1 = (i : Int) := ⟨p.1.toNat, by omega⟩
    rw [List.map_cons, List.sum_cons, ih hT]
    have e1 := Gm.sm_pick (n := (r + 1).toNat) (a := i) (by omega) fun _ => φ p.1 p.2
    rw [← e1, Int.add_comm, ← Gm.sm_add]
    refine Gm.sm_congr fun c _ => ?_
    rw [val_cons]
    by_cases q : i = c
    · rw [if_pos q, if_pos (by omega)]
      have : val T (c : Int) = 0 := val_none (by rw [← q, ← hi]; exact nd.1)
      rw [this, h0, ← q, ← hi]
      omega
    · rw [if_neg q, if_neg (by omega)]
      omega
end Gc
end
section
set_option autoImplicit false
set_option linter.all false
set_option maxRecDepth 100000
namespace Gc
open PySem Mi
open Gm (nextsP gapsP movedP nextP rowT Runs Backs xx ext bb wm rowOf Row sm gb mem_gb cnt total)
variable {M M' M2 : Mst} {L r : Int} {xs : List Int}
theorem dT_len (T : List (Int × Int)) : (dT T).length = T.length := by simp [dT]
theorem cnt_in (h1 : 0 ≤ r) (h2 : r ≤ 3) {s1 s2 s3 s4 s9 : Slot} {g : Int} {T F : List (Int × Int)} {a v : Int} (hT : atD (dT T) a = some (.int v)) (hF : KeyS r F) : ∃ (F' : List (Int × Int)) (u9 : Slot), MS.den (tbl T_count_of) (.loop [9] (.seq (.call 72 (.cons (.sub (.var 0) (.int 1)) (.cons (.var 6) (.cons (.var 8) .nil))))) [.dset 7 (.var 9) (.bin .add (.dgetd 7 (.var 9) (.int 0)) (.dget 5 (.var 8)))]) [.v (rgD L r), s1, s2, s3, s4, .dz (dT T), .v (.int g), .di (dT F), .v (.int a), s9] M = .nx [.v (rgD L r), s1, s2, s3, s4, .dz (dT T), .v (.int g), .di (dT F'), .v (.int a), u9] M ∧ KeyS r F' ∧ ∀ m, val F' m = val F m + if m ∈ gb r g a then v else 0 := by
  have ei : MI.den (tbl T_count_of) (.seq (.call 72 (.cons (.sub (.var 0) (.int 1)) (.cons (.var 6) (.cons (.var 8) .nil))))) [.v (rgD L r), s1, s2, s3, s4, .dz (dT T), .v (.int g), .di (dT F), .v (.int a), s9] M = .ok ((gb r g a).map .int) M := by
    have e := goes_before_ok (M := M) h1 h2 g a
    generalize (gb r g a).map D.int = G at e ⊢
    simp -implicitDefEqProofs [e]
  rw [den_loop, ei, toS_ok_]
  generalize hz : forD _ _ _ _ = Z
  obtain ⟨ρ', M', rfl, ⟨hM, F', u9, rfl, k1, k2⟩⟩ := forD_out hz (fun j ρ M' => M' = M ∧ ∃ (F' : List (Int × Int)) (u9 : Slot), ρ = [.v (rgD L r), s1, s2, s3, s4, .dz (dT T), .v (.int g), .di (dT F'), .v (.int a), u9] ∧ KeyS r F' ∧ ∀ m, val F' m = val F m + if m ∈ (gb r g a).take j then v else 0) ⟨rfl, F, s9, rfl, hF, fun m => by simp⟩ (by
    rintro j x ρ M' hx ⟨rfl, F', u9, rfl, k1, k2⟩
    rw [List.getElem?_map] at hx
    obtain ⟨k, ek, rfl⟩ := Option.map_eq_some_iff.mp hx
    have hk := (mem_gb h1).mp (List.mem_of_getElem? ek)
    have g1 := at_getD F' k
    have g3 := put_dT F' k (val F' k + v)
    have g4 : (dT F').length < line := by
      rw [dT_len]
      have := k1.len h2
      exact Nat.lt_of_le_of_lt this (by decide)
    refine ⟨_, M', ?_, rfl, put F' k (val F' k + v), .v (.int k), rfl, k1.put hk.2.1 hk.2.2.1, fun m => ?_⟩
    · rw [asg_one]
      refine dens_step (M' := M') ?_ rfl
      generalize dT F' = DF at g1 g3 g4 ⊢
      generalize dT T = DT at hT ⊢
      simp -implicitDefEqProofs [g1, hT, g4, g3]
    · rw [val_put]
      have tk : (gb r g a).take (j + 1) = (gb r g a).take j ++ [k] := by rw [List.take_add_one, ek]; rfl
      have nd := Gm.gb_nodup r g a
      have nk : k ∉ (gb r g a).take j := fun z => by
        have e1 := List.take_append_drop (j + 1) (gb r g a)
        rw [tk] at e1
        rw [← e1] at nd
        have := (List.nodup_append.mp (List.nodup_append.mp nd).1).2.2 k z k (by simp)
        exact this rfl
      rw [tk]
      by_cases q : m = k
      · subst q
        rw [if_pos rfl, k2, if_neg nk, if_pos (by simp)]
        omega
      · rw [if_neg q, k2]
        by_cases q2 : m ∈ (gb r g a).take j
        · rw [if_pos q2, if_pos (List.mem_append_left _ q2)]
        · rw [if_neg q2, if_neg (by
            rw [List.mem_append, List.mem_singleton]
            exact fun z => z.elim q2 q)])
  refine ⟨F', u9, by rw [hM], k1, fun m => ?_⟩
  rw [k2, List.length_map, List.take_length]
theorem cnt_gap (h1 : 0 ≤ r) (h2 : r ≤ 3) {s1 s2 s3 s4 s7 s8 s9 : Slot} {g : Int} {T : List (Int × Int)} (hT : KeyS r T) : ∃ (F : List (Int × Int)) (u8 u9 : Slot), MS.dens (tbl T_count_of) [.dnew 7 false, .loop [8] (.keys 5) [.loop [9] (.seq (.call 72 (.cons (.sub (.var 0) (.int 1)) (.cons (.var 6) (.cons (.var 8) .nil))))) [.dset 7 (.var 9) (.bin .add (.dgetd 7 (.var 9) (.int 0)) (.dget 5 (.var 8)))]], .mv 5 7] [.v (rgD L r), s1, s2, s3, s4, .dz (dT T), .v (.int g), s7, s8, s9] M = .nx [.v (rgD L r), s1, s2, s3, s4, .dz (dT F), .v (.int g), .no, u8, u9] M ∧ KeyS r F ∧ ∀ m, val F m = sm (r + 1).toNat fun c => if m ∈ gb r g (c : Int) then val T (c : Int) else 0 := by
  have key : ∃ (F : List (Int × Int)) (u8 u9 : Slot), MS.den (tbl T_count_of) (.loop [8] (.keys 5) [.loop [9] (.seq (.call 72 (.cons (.sub (.var 0) (.int 1)) (.cons (.var 6) (.cons (.var 8) .nil))))) [.dset 7 (.var 9) (.bin .add (.dgetd 7 (.var 9) (.int 0)) (.dget 5 (.var 8)))]]) [.v (rgD L r), s1, s2, s3, s4, .dz (dT T), .v (.int g), .di (dT []), s8, s9] M = .nx [.v (rgD L r), s1, s2, s3, s4, .dz (dT T), .v (.int g), .di (dT F), u8, u9] M ∧ KeyS r F ∧ ∀ m, val F m = (T.map fun p => if m ∈ gb r g p.1 then p.2 else 0).sum := by
    have ei : MI.den (tbl T_count_of) (.keys 5) [.v (rgD L r), s1, s2, s3, s4, .dz (dT T), .v (.int g), .di (dT []), s8, s9] M = .ok (T.map fun p => .int p.1) M := by
      show R.ok ((dT T).map fun p => D.int p.1) M = _
      unfold dT
      rw [List.map_map]
      rfl
    rw [den_loop, ei, toS_ok_]
    generalize hz : forD _ _ _ _ = Z
    obtain ⟨ρ', M', rfl, ⟨hM, F', u8, u9, rfl, k1, k2⟩⟩ := forD_out hz (fun j ρ M' => M' = M ∧ ∃ (F' : List (Int × Int)) (u8 u9 : Slot), ρ = [.v (rgD L r), s1, s2, s3, s4, .dz (dT T), .v (.int g), .di (dT F'), u8, u9] ∧ KeyS r F' ∧ ∀ m, val F' m = ((T.take j).map fun p => if m ∈ gb r g p.1 then p.2 else 0).sum) ⟨rfl, [], s8, s9, rfl, ⟨List.nodup_nil, fun k hk => by cases hk⟩, fun m => by simp [val]⟩ (by
      rintro j x ρ M' hx ⟨rfl, F', u8, u9, rfl, k1, k2⟩
      rw [List.getElem?_map] at hx
      obtain ⟨p, ek, rfl⟩ := Option.map_eq_some_iff.mp hx
      obtain ⟨F2, u9', e, k3, k4⟩ := cnt_in (M := M') (L := L) (s1 := s1) (s2 := s2) (s3 := s3) (s4 := s4) (s9 := u9) (g := g) h1 h2 (at_key hT.nd (List.mem_of_getElem? ek)) k1
      refine ⟨_, M', ?_, rfl, F2, .v (.int p.1), u9', rfl, k3, fun m => ?_⟩
      · rw [asg_one]
        exact dens_step e rfl
      · rw [k4, k2, List.take_add_one, ek, List.map_append, List.sum_append]
        simp)
    refine ⟨F', u8, u9, by rw [hM], k1, fun m => ?_⟩
    rw [k2, List.length_map, List.take_length]
  obtain ⟨F, u8, u9, e, k1, k2⟩ := key
  refine ⟨F, u8, u9, ?_, k1, fun m => ?_⟩
  · refine dens_step (ρ' := [.v (rgD L r), s1, s2, s3, s4, .dz (dT T), .v (.int g), .di (dT []), s8, s9]) (M' := M) rfl ?_
    exact dens_step e rfl
  · rw [k2, sum_pairs hT (fun k v => if m ∈ gb r g k then v else 0) fun k => by split <;> rfl]
theorem count_of_ok (h : RR L r xs) : f_count_of [rgD L r, row xs] M = .ok (.int (total r (gapsP L xs))) M := by
  have hr := h.ring.r
  have h1 : 0 ≤ r := by omega
  have h2 : r ≤ 3 := by omega
  have e3 : rngOk 0 (r + 1) = true := rngOk_0 (by omega) (by omega)
  show runDef (tbl T_count_of) 10 b_count_of _ M = _
  rw [run_eq]
  unfold b_count_of
  simp only [List.map_cons, List.map_nil, List.length_cons, List.length_nil, List.cons_append, List.nil_append]
  rw [show List.replicate (10 - (0 + 1 + 1)) Slot.no = [Slot.no, .no, .no, .no, .no, .no, .no, .no] from rfl]
  have ag := all_gaps_ok (L := L) (r := r) (M := M) h.ne h.few
  generalize hG : gapsP L xs = gs at ag ⊢
  refine fin_step (ρ' := [.v (rgD L r), .v (row xs), .no, .v (.int 0), .v (row gs), .no, .no, .no, .no, .no]) (M' := M) ?_ ?_
  · generalize row gs = G at ag ⊢
    generalize row xs = X at ag ⊢
    simp -implicitDefEqProofs [ag]
  have ei : ∀ s2 s5 s6 s7 s8 s9, MI.den (tbl T_count_of) (.rng (.bin .add (.sub (.var 0) (.int 1)) (.int 1))) [.v (rgD L r), .v (row xs), s2, .v (.int 0), .v (row gs), s5, s6, s7, s8, s9] M = .ok ((List.range (r + 1).toNat).map fun i : Nat => D.int (i : Int)) M := fun s2 s5 s6 s7 s8 s9 => by
    have := rng_ints (L := r + 1)
    rw [List.map_map] at this
    rw [show ((List.range (r + 1).toNat).map fun i : Nat => D.int (i : Int)) = rngI 0 (r + 1) from this.symm]
    simp -implicitDefEqProofs [e3]
  rw [dens_cons, den_loop, ei, toS_ok_]
  generalize hz : forD _ _ _ _ = Z
  obtain ⟨ρ', M', rfl, ⟨hM, u2, u5, u6, u7, u8, u9, rfl⟩⟩ := forD_out hz (fun j ρ M' => M' = M ∧ ∃ (u2 u5 u6 u7 u8 u9 : Slot), ρ = [.v (rgD L r), .v (row xs), u2, .v (.int (sm j fun b => cnt r gs (b : Int) (b : Int))), .v (row gs), u5, u6, u7, u8, u9]) ⟨rfl, .no, .no, .no, .no, .no, .no, rfl⟩ (by
    rintro j x ρ M' hx ⟨rfl, u2, u5, u6, u7, u8, u9, rfl⟩
    rw [List.getElem?_map] at hx
    obtain ⟨i, ei, rfl⟩ := Option.map_eq_some_iff.mp hx
    obtain ⟨rfl, hi⟩ := range_at ei
    rw [asg_one]
    -- the gaps, from the last one on
    have key : ∃ (T : List (Int × Int)) (v6 v7 v8 v9 : Slot), MS.den (tbl T_count_of) (.loop [6] (.seq (.rev (.var 4))) [.dnew 7 false, .loop [8] (.keys 5) [.loop [9] (.seq (.call 72 (.cons (.sub (.var 0) (.int 1)) (.cons (.var 6) (.cons (.var 8) .nil))))) [.dset 7 (.var 9) (.bin .add (.dgetd 7 (.var 9) (.int 0)) (.dget 5 (.var 8)))]], .mv 5 7]) [.v (rgD L r), .v (row xs), .v (.int (i : Int)), .v (.int (sm i fun b => cnt r gs (b : Int) (b : Int))), .v (row gs), .dz (dT [((i : Int), 1)]), u6, u7, u8, u9] M' = .nx [.v (rgD L r), .v (row xs), .v (.int (i : Int)), .v (.int (sm i fun b => cnt r gs (b : Int) (b : Int))), .v (row gs), .dz (dT T), v6, v7, v8, v9] M' ∧ ∀ a, val T a = cnt r gs a (i : Int) := by
      have e0 : MI.den (tbl T_count_of) (.seq (.rev (.var 4))) [.v (rgD L r), .v (row xs), .v (.int (i : Int)), .v (.int (sm i fun b => cnt r gs (b : Int) (b : Int))), .v (row gs), .dz (dT [((i : Int), 1)]), u6, u7, u8, u9] M' = .ok (gs.reverse.map .int) M' := by
        rw [List.map_reverse]
        rfl
      rw [den_loop, e0, toS_ok_]
      generalize hz : forD _ _ _ _ = Z
      obtain ⟨ρ', M2, rfl, ⟨hM, T, v6, v7, v8, v9, rfl, k1, k2⟩⟩ := forD_out hz (fun j ρ M2 => M2 = M' ∧ ∃ (T : List (Int × Int)) (v6 v7 v8 v9 : Slot), ρ = [.v (rgD L r), .v (row xs), .v (.int (i : Int)), .v (.int (sm i fun b => cnt r gs (b : Int) (b : Int))), .v (row gs), .dz (dT T), v6, v7, v8, v9] ∧ KeyS r T ∧ ∀ a, val T a = cnt r (gs.reverse.take j).reverse a (i : Int)) ⟨rfl, [((i : Int), 1)], u6, u7, u8, u9, rfl, ⟨by simp, fun k hk => by simp at hk; omega⟩, fun a => by
        show val [((i : Int), 1)] a = if a = (i : Int) then 1 else 0
        rw [val_cons]
        by_cases q : (i : Int) = a
        · rw [if_pos q, if_pos q.symm]
        · rw [if_neg q, if_neg (fun e => q e.symm)]
          rfl⟩ (by
        rintro j x ρ M2 hx ⟨rfl, T, v6, v7, v8, v9, rfl, k1, k2⟩
        rw [List.getElem?_map] at hx
        obtain ⟨g, eg, rfl⟩ := Option.map_eq_some_iff.mp hx
        obtain ⟨F, w8, w9, q1, q2, q3⟩ := cnt_gap (M := M2) (L := L) (s1 := .v (row xs)) (s2 := .v (.int (i : Int))) (s3 := .v (.int (sm i fun b => cnt r gs (b : Int) (b : Int)))) (s4 := .v (row gs)) (s7 := v7) (s8 := v8) (s9 := v9) (g := g) h1 h2 k1
        refine ⟨_, M2, ?_, rfl, F, .v (.int g), .no, w8, w9, rfl, q2, fun a => ?_⟩
        · rw [asg_one]
          exact q1
        · rw [q3, List.take_add_one, eg, List.reverse_append]
          show _ = sm (r + 1).toNat fun c => if a ∈ gb r g (c : Int) then cnt r (gs.reverse.take j).reverse (c : Int) (i : Int) else 0
          exact Gm.sm_congr fun c _ => by rw [k2])
      refine ⟨T, v6, v7, v8, v9, by rw [hM], fun a => ?_⟩
      rw [k2, List.length_map, List.take_length, List.reverse_reverse]
    obtain ⟨T, v6, v7, v8, v9, q1, q2⟩ := key
    refine ⟨_, M', ?_, rfl, .v (.int (i : Int)), .dz (dT T), v6, v7, v8, v9, rfl⟩
    refine dens_step (ρ' := [.v (rgD L r), .v (row xs), .v (.int (i : Int)), .v (.int (sm i fun b => cnt r gs (b : Int) (b : Int))), .v (row gs), .dz (dT [((i : Int), 1)]), u6, u7, u8, u9]) (M' := M') rfl ?_
    refine dens_step q1 ?_
    have g1 := at_getD T (i : Int)
    rw [q2] at g1
    have sm1 : (sm (i + 1) fun b => cnt r gs (b : Int) (b : Int)) = (sm i fun b => cnt r gs (b : Int) (b : Int)) + cnt r gs (i : Int) (i : Int) := rfl
    rw [sm1]
    generalize (sm i fun b => cnt r gs (b : Int) (b : Int)) = tot
    generalize cnt r gs (i : Int) (i : Int) = more at g1 ⊢
    generalize dT T = DT at g1 ⊢
    generalize row gs = G
    generalize row xs = X
    refine dens_step (M' := M') ?_ rfl
    simp -implicitDefEqProofs [g1])
  subst hM
  rw [List.length_map, List.length_range]
  show R.ok (D.int (sm (r + 1).toNat fun b => cnt r gs (b : Int) (b : Int))) _ = _
  rfl
theorem how_many_ok (h : RR L r xs) : f_how_many [rgD L r, row xs] M = .ok (.int (total r (gapsP L xs))) M := by
  have e := count_of_ok (M := M) h
  have e0 := need_row_ok (M := M) h.ring h.good
  show runDef (tbl T_how_many) 2 b_how_many _ M = _
  rw [run_eq]
  generalize row xs = X at e e0 ⊢
  simp -implicitDefEqProofs [b_how_many, e0, e, finD]
end Gc
end
section
set_option autoImplicit false
set_option linter.all false
/-! rows turned round; carts and gaps exchanged; rows one behind the other -/
namespace Gm
section
variable {L r : Int} {xs : List Int}
def turnP (L : Int) (xs : List Int) (m : Int) : List Int := srt (xs.map fun x => (x + m) % L)
theorem turn_rowOf (h : xs ≠ []) (m : Int) : turnP L xs m = rowOf L xs.length fun j => ext L xs j + m := by
  have e : xs.map (fun x => (x + m) % L) = (List.range xs.length).map fun j => (ext L xs j + m) % L := by
    have := congrArg (List.map fun x => (x + m) % L) (self_range (L := L) (xs := xs))
    rw [List.map_map] at this
    exact this
  unfold turnP rowOf
  rw [e]
theorem turn_rg (R : Row L xs) (hr : 0 ≤ r) (m : Int) : Rg L r xs.length fun j => ext L xs j + m := by
  have := (R.rg hr).shift 0 (-m)
  have e : (fun j => ext L xs (j + 0) - -m) = fun j => ext L xs j + m := funext fun j => by
    rw [Nat.add_zero]
    omega
  rw [e] at this
  exact this
theorem turn_row (R : Row L xs) (m : Int) : Row L (turnP L xs m) := by
  rw [turn_rowOf R.ne]
  exact rowOf_row (turn_rg (r := 0) R (by omega) m)
theorem turn_len (m : Int) : (turnP L xs m).length = xs.length := by
  unfold turnP
  rw [(srt_perm _).length_eq, List.length_map]
theorem turn_ext (R : Row L xs) (m : Int) : ∃ (s : Nat) (q : Int), ∀ j, ext L (turnP L xs m) j = ext L xs (j + s) + m - L * q := by
  rw [turn_rowOf R.ne]
  exact ext_rowOf (turn_rg (r := 0) R (by omega) m)
theorem turn_xx (R : Row L xs) (m : Int) : ∃ (s : Nat) (q : Int), ∀ t j, xx r (ext L (turnP L xs m)) t j = xx r (ext L xs) t (j + s) + m - L * q := by
  obtain ⟨s, q, h⟩ := turn_ext R m
  refine ⟨s, q, fun t j => ?_⟩
  have e : ext L (turnP L xs m) = fun j => ext L xs (j + s) - (L * q - m) := funext fun j => by
    rw [h]
    omega
  rw [e, xx_shift]
  omega
theorem turn_rowT (R : Row L xs) (hr : 0 ≤ r) (m : Int) (t : Nat) : rowT L r (turnP L xs m) t = turnP L (rowT L r xs t) m := by
  obtain ⟨s, q, h⟩ := turn_xx (r := r) R m
  have X := xx_rg (R.rg hr) t
  have e1 : rowT L r (turnP L xs m) t = rowOf L xs.length fun j => xx r (ext L xs) t j + m := by
    unfold rowT
    rw [turn_len]
    have : xx r (ext L (turnP L xs m)) t = fun j => (fun i => xx r (ext L xs) t i + m) (j + s) - L * q := funext fun j => h t j
    rw [this]
    have Y : Rg L r xs.length fun j => xx r (ext L xs) t j + m := by
      have := X.shift 0 (-m)
      have e : (fun j => xx r (ext L xs) t (j + 0) - -m) = fun j => xx r (ext L xs) t j + m := funext fun j => by
        rw [Nat.add_zero]
        omega
      rw [e] at this
      exact this
    exact rowOf_shift Y s q
  rw [e1]
  have R2 := rowT_row R hr t
  rw [turn_rowOf R2.ne, rowT_len]
  obtain ⟨s2, q2, h2⟩ := ext_rowOf X
  have : (fun j => ext L (rowT L r xs t) j + m) = fun j => (fun i => xx r (ext L xs) t i + m) (j + s2) - L * q2 := funext fun j => by
    show ext L (rowOf L xs.length (xx r (ext L xs) t)) j + m = _
    rw [h2]
    dsimp only
    omega
  rw [this]
  have Y : Rg L r xs.length fun j => xx r (ext L xs) t j + m := by
    have := X.shift 0 (-m)
    have e : (fun j => xx r (ext L xs) t (j + 0) - -m) = fun j => xx r (ext L xs) t j + m := funext fun j => by
      rw [Nat.add_zero]
      omega
    rw [e] at this
    exact this
  exact (rowOf_shift Y s2 q2).symm
theorem shift_all {P : Int → Prop} {f g : Nat → Int} {n s : Nat} (hn : 0 < n) (hp : ∀ j, g (j + n) = g j) (h : ∀ j, f j = g (j + s)) : (∀ j, P (f j)) ↔ ∀ j, P (g j) := by
  have per : ∀ k j, g (j + n * k) = g j := by
    intro k
    induction k with
    | zero => intro j; rfl
    | succ k ih => intro j; rw [Nat.mul_succ, ← Nat.add_assoc, hp, ih]
  refine ⟨fun a j => ?_, fun a j => h j ▸ a _⟩
  have e := a (j + (n * s - s))
  rw [h] at e
  have : j + (n * s - s) + s = j + n * s := by
    have : s ≤ n * s := Nat.le_mul_of_pos_left s hn
    omega
  rw [this, per] at e
  exact e
theorem turn_runs (R : Row L xs) (hr : 0 ≤ r) (m : Int) (t : Nat) : Runs r (xx r (ext L (turnP L xs m)) t) ↔ Runs r (xx r (ext L xs) t) := by
  obtain ⟨s, q, h⟩ := turn_xx (r := r) R m
  have X := xx_rg (R.rg hr) t
  exact shift_all (P := fun v => r ≤ v) (f := fun j => xx r (ext L (turnP L xs m)) t (j + 1) - xx r (ext L (turnP L xs m)) t j - 1) (g := fun j => xx r (ext L xs) t (j + 1) - xx r (ext L xs) t j - 1) (s := s) X.n0 (gap_per X) fun j => by
    rw [h, h, show j + 1 + s = j + s + 1 by omega]
    omega
theorem turn_backs (R : Row L xs) (hr : 0 ≤ r) (m : Int) (t : Nat) : Backs r (xx r (ext L (turnP L xs m)) t) ↔ Backs r (xx r (ext L xs) t) := by
  obtain ⟨s, q, h⟩ := turn_xx (r := r) R m
  have X := xx_rg (R.rg hr) t
  exact shift_all (P := fun v => v ≤ r) (f := fun j => xx r (ext L (turnP L xs m)) t (j + 1) - xx r (ext L (turnP L xs m)) t j - 1) (g := fun j => xx r (ext L xs) t (j + 1) - xx r (ext L xs) t j - 1) (s := s) X.n0 (gap_per X) fun j => by
    rw [h, h, show j + 1 + s = j + s + 1 by omega]
    omega
theorem turn_total (R : Row L xs) (hr : 0 ≤ r) (m : Int) : total r (gapsP L (turnP L xs m)) = total r (gapsP L xs) := by
  rw [turn_rowOf R.ne, total_rowOf (turn_rg R hr m)]
  have e : total r (gapsP L xs) = total r ((List.range xs.length).map fun j => ext L xs (j + 1) - ext L xs j - 1) := by
    rw [gaps_range R.ne]
  rw [e]
  congr 1
  refine List.map_congr_left fun j _ => ?_
  omega
/-! one behind the other -/
theorem xx_mono {a b : Nat → Int} (h : ∀ j, a j ≤ b j) : ∀ t j, xx r a t j ≤ xx r b t j
  | 0, j => by rw [xx_zero, xx_zero]; exact h j
  | t + 1, j => by
    rw [xx_succ, xx_succ]
    have := xx_mono h t j
    have := xx_mono h t (j + 1)
    omega
theorem xx_reach {r' : Int} {a : Nat → Int} (h : r' ≤ r) : ∀ t j, xx r' a t j ≤ xx r a t j
  | 0, j => by rw [xx_zero, xx_zero]; exact Int.le_refl _
  | t + 1, j => by
    rw [xx_succ, xx_succ]
    have := xx_reach (a := a) h t j
    have := xx_reach (a := a) h t (j + 1)
    omega
/-! carts and gaps exchanged, at reach one -/
theorem ext_nn (R : Row L xs) (j : Nat) : 0 ≤ ext L xs j := by
  have hn := (R.rg (r := 0) (by omega)).n0
  have L0 := (R.rg (r := 0) (by omega)).L0
  unfold ext
  have h1 := R.lo _ (getD_mem (row := xs) (Nat.mod_lt j hn))
  have h2 : 0 ≤ L * ((j / xs.length : Nat) : Int) := Int.mul_nonneg (by omega) (Int.natCast_nonneg _)
  omega
theorem ext_low (R : Row L xs) {j : Nat} (h : j < xs.length) : ext L xs j < L := by
  rw [ext_lt h]
  exact (R.lo _ (getD_mem h)).2
theorem mem_ext (R : Row L xs) {v : Int} (hv : 0 ≤ v) : v % L ∈ xs ↔ ∃ j, ext L xs j = v := by
  have hn := (R.rg (r := 0) (by omega)).n0
  have L0 := (R.rg (r := 0) (by omega)).L0
  constructor
  · intro h
    obtain ⟨i, hi, e⟩ := List.getElem_of_mem h
    refine ⟨i + xs.length * (v / L).toNat, ?_⟩
    unfold ext
    rw [Nat.add_mul_mod_self_left, Nat.mod_eq_of_lt hi, Nat.add_mul_div_left _ _ hn, Nat.div_eq_of_lt hi, Nat.zero_add, List.getD_eq_getElem?_getD, List.getElem?_eq_getElem hi, e]
    show v % L + L * ((v / L).toNat : Int) = v
    have h2 : 0 ≤ v / L := Int.ediv_nonneg hv (by omega)
    rw [show ((v / L).toNat : Int) = v / L by omega]
    exact Int.emod_add_mul_ediv v L
  · rintro ⟨j, rfl⟩
    unfold ext
    rw [Int.add_mul_emod_self_left]
    have h1 := getD_mem (row := xs) (Nat.mod_lt j hn)
    have h2 := R.lo _ h1
    rw [Int.emod_eq_of_lt h2.1 h2.2]
    exact h1
theorem not_between (R : Row L xs) {v : Int} {j : Nat} (h1 : ext L xs j < v) (h2 : v < ext L xs (j + 1)) : v % L ∉ xs := fun h => by
  have Y := R.rg (r := 0) (by omega)
  have h0 := ext_nn R j
  obtain ⟨i, e⟩ := (mem_ext R (by omega)).mp h
  rcases Nat.lt_trichotomy i j with q | q | q
  · have := inc_lt Y q
    omega
  · subst q
    omega
  · rcases Nat.lt_or_eq_of_le (Nat.succ_le_of_lt q) with q2 | q2
    · have := inc_lt Y (show j + 1 < i from q2)
      omega
    · rw [← q2] at e
      have : ext L xs (j + 1) = v := e
      omega
theorem mem_next1 (R : Row L xs) {k : Int} (h0 : 0 ≤ k) (h1 : k < L) : k ∈ nextP L 1 xs ↔ (k ∈ xs ∧ (k + 1) % L ∈ xs) ∨ (k ∉ xs ∧ (k - 1) % L ∈ xs) := by
  have Y := R.rg (r := 1) (by omega)
  have L0 := Y.L0
  have ek : k % L = k := Int.emod_eq_of_lt h0 h1
  rw [next_range R.ne, mem_rowOf]
  have ex : ∀ j, xx 1 (ext L xs) 1 j = min (ext L xs j + 1) (ext L xs (j + 1) - 1) := fun j => by
    rw [show (1 : Nat) = 0 + 1 from rfl, xx_succ, xx_zero, xx_zero]
  constructor
  · rintro ⟨j, hj, e⟩
    rw [ex] at e
    have hi := Y.inc j
    have hnn := ext_nn R j
    by_cases q : ext L xs (j + 1) = ext L xs j + 1
    · rw [show min (ext L xs j + 1) (ext L xs (j + 1) - 1) = ext L xs j by omega] at e
      left
      rw [← e]
      refine ⟨(mem_ext R hnn).mpr ⟨j, rfl⟩, ?_⟩
      rw [Int.emod_add_emod]
      exact (mem_ext R (by omega)).mpr ⟨j + 1, q⟩
    · rw [show min (ext L xs j + 1) (ext L xs (j + 1) - 1) = ext L xs j + 1 by omega] at e
      right
      rw [← e]
      refine ⟨not_between R (j := j) (by omega) (by omega), ?_⟩
      rw [Int.emod_sub_emod, show ext L xs j + 1 - 1 = ext L xs j by omega]
      exact (mem_ext R hnn).mpr ⟨j, rfl⟩
  · have at_ : ∀ v : Int, 0 ≤ v → v < L → v ∈ xs → ∃ j, j < xs.length ∧ ext L xs j = v := fun v v0 v1 hv => by
      obtain ⟨i, hi, e⟩ := List.getElem_of_mem hv
      refine ⟨i, hi, ?_⟩
      rw [ext_lt hi, List.getD_eq_getElem?_getD, List.getElem?_eq_getElem hi, e]
      rfl
    rintro (⟨a, b⟩ | ⟨a, b⟩)
    · obtain ⟨j, hj, e⟩ := at_ k h0 h1 a
      have hi := Y.inc j
      refine ⟨j, hj, ?_⟩
      have q : ext L xs (j + 1) = ext L xs j + 1 := Classical.byContradiction fun q => not_between R (j := j) (v := k + 1) (by omega) (by omega) b
      rw [ex, show min (ext L xs j + 1) (ext L xs (j + 1) - 1) = ext L xs j by omega, e, ek]
    · have hb := Int.emod_nonneg (k - 1) (show L ≠ 0 by omega)
      have hb2 := Int.emod_lt_of_pos (k - 1) L0
      obtain ⟨j, hj, e⟩ := at_ _ hb hb2 b
      have hi := Y.inc j
      have e2 : (ext L xs j + 1) % L = k := by
        rw [e, Int.emod_add_emod, show k - 1 + 1 = k by omega, ek]
      have q : ext L xs (j + 1) ≠ ext L xs j + 1 := fun q => a (by
        rw [← e2, ← q]
        exact (mem_ext R (ext_nn R _)).mpr ⟨_, rfl⟩)
      refine ⟨j, hj, ?_⟩
      rw [ex, show min (ext L xs j + 1) (ext L xs (j + 1) - 1) = ext L xs j + 1 by omega, e2]
/-- the gaps, back to front -/
def frP (L : Int) (xs : List Int) : List Int := ((List.range L.toNat).map fun i : Nat => (i : Int)).filter fun c => !decide (c ∈ xs)
theorem mem_fr {c : Int} : c ∈ frP L xs ↔ 0 ≤ c ∧ c < L ∧ c ∉ xs := by
  unfold frP
  rw [List.mem_filter, List.mem_map]
  simp only [Bool.not_eq_true', decide_eq_false_iff_not]
  constructor
  · rintro ⟨⟨i, hi, rfl⟩, h⟩
    rw [List.mem_range] at hi
    exact ⟨by omega, by omega, h⟩
  · rintro ⟨h0, h1, h2⟩
    exact ⟨⟨c.toNat, List.mem_range.mpr (by omega), by omega⟩, h2⟩
def mirP (L : Int) (xs : List Int) : List Int := srt ((frP L xs).map fun c => L - 1 - c)
theorem mem_mir {k : Int} : k ∈ mirP L xs ↔ 0 ≤ k ∧ k < L ∧ L - 1 - k ∉ xs := by
  unfold mirP
  rw [(srt_perm _).mem_iff, List.mem_map]
  constructor
  · rintro ⟨c, hc, rfl⟩
    obtain ⟨h0, h1, h2⟩ := mem_fr.mp hc
    exact ⟨by omega, by omega, by rw [show L - 1 - (L - 1 - c) = c by omega]; exact h2⟩
  · rintro ⟨h0, h1, h2⟩
    exact ⟨L - 1 - k, mem_fr.mpr ⟨by omega, by omega, h2⟩, by omega⟩
theorem mir_lt : (mirP L xs).Pairwise (· < ·) := by
  refine srt_lt (List.pairwise_map.mpr ?_)
  have nd : (frP L xs).Nodup := List.Pairwise.filter _ (List.pairwise_map.mpr ((List.nodup_range (n := L.toNat)).imp fun h e => h (by omega)))
  exact nd.imp fun h e => h (by omega)
theorem mir_row (hne : frP L xs ≠ []) : Row L (mirP L xs) := by
  refine ⟨fun e => hne ?_, mir_lt, fun x hx => ⟨(mem_mir.mp hx).1, (mem_mir.mp hx).2.1⟩⟩
  have := (srt_perm ((frP L xs).map fun c => L - 1 - c)).length_eq
  unfold mirP at e
  rw [e] at this
  have : (frP L xs).length = 0 := by simpa using this.symm
  exact List.length_eq_zero_iff.mp this
theorem mir_next (R : Row L xs) (hne : frP L xs ≠ []) (hL : 2 ≤ L) : nextP L 1 (mirP L xs) = mirP L (nextP L 1 xs) := by
  have R2 := mir_row hne
  have r1 : ∀ {zs : List Int}, Row L zs → Row L (nextP L 1 zs) := fun {zs} R => by
    rw [next_range R.ne]
    exact rowOf_row (xx_rg (R.rg (by omega)) 1)
  have L0 : 0 < L := by omega
  refine lt_one (r1 R2).lt mir_lt fun k => ?_
  have key : 0 ≤ k → k < L → (k ∈ nextP L 1 (mirP L xs) ↔ L - 1 - k ∉ nextP L 1 xs) := fun h0 h1 => by
    rw [mem_next1 R2 h0 h1, mem_next1 R (by omega) (by omega)]
    have m : ∀ v : Int, v % L ∈ mirP L xs ↔ (L - 1 - v) % L ∉ xs := fun v => by
      have a := Int.emod_nonneg v (show L ≠ 0 by omega)
      have b := Int.emod_lt_of_pos v L0
      rw [mem_mir]
      have e : (L - 1 - v) % L = L - 1 - v % L := by
        have e1 := Int.emod_add_mul_ediv v L
        have e2 : L - 1 - v = (L - 1 - v % L) + L * (-(v / L)) := by
          rw [Int.mul_neg]
          omega
        rw [e2, Int.add_mul_emod_self_left, Int.emod_eq_of_lt (by omega) (by omega)]
      rw [e]
      exact ⟨fun h => h.2.2, fun h => ⟨a, b, h⟩⟩
    have m0 : k ∈ mirP L xs ↔ L - 1 - k ∉ xs := by
      rw [mem_mir]
      exact ⟨fun h => h.2.2, fun h => ⟨h0, h1, h⟩⟩
    have m1 := m (k + 1)
    have m2 := m (k - 1)
    rw [show L - 1 - (k + 1) = L - 1 - k - 1 by omega] at m1
    rw [show L - 1 - (k - 1) = L - 1 - k + 1 by omega] at m2
    rw [m0, m1, m2]
    by_cases a : L - 1 - k ∈ xs <;> by_cases b : (L - 1 - k - 1) % L ∈ xs <;> by_cases c : (L - 1 - k + 1) % L ∈ xs <;> simp [a, b, c]
  rw [mem_mir]
  constructor
  · intro h
    have b := (r1 R2).lo k h
    exact ⟨b.1, b.2, (key b.1 b.2).mp h⟩
  · rintro ⟨h0, h1, h2⟩
    exact (key h0 h1).mpr h2
theorem row_le {ws : List Int} (R : Row L ws) (hL : 0 ≤ L) : (ws.length : Int) ≤ L := by
  have key : ∀ (ys : List Int) (a : Int), ys.Pairwise (· < ·) → (∀ y ∈ ys, a ≤ y ∧ y < L) → (ys.length : Int) ≤ L - a ∨ ys = [] := by
    intro ys
    induction ys with
    | nil => intro a _ _; exact .inr rfl
    | cons y ys ih =>
      intro a h1 h2
      rw [List.pairwise_cons] at h1
      have hy := h2 y (by simp)
      rcases ih (y + 1) h1.2 (fun z hz => ⟨h1.1 z hz, (h2 z (by simp [hz])).2⟩) with h | h
      · left
        rw [List.length_cons]
        omega
      · left
        subst h
        simp
        omega
  rcases key ws 0 R.lt R.lo with h | h
  · omega
  · rw [h]
    simpa using hL
theorem next_free (R : Row L xs) (hne : frP L xs ≠ []) : frP L (nextP L 1 xs) ≠ [] := by
  have Y := R.rg (r := 1) (by omega)
  -- as many carts as before
  intro e
  have l1 : (nextP L 1 xs).length = xs.length := by
    rw [next_range R.ne, rowOf_len]
  obtain ⟨c, hc⟩ := List.exists_mem_of_ne_nil _ hne
  obtain ⟨c0, c1, c2⟩ := mem_fr.mp hc
  have full : ∀ k, 0 ≤ k → k < L → k ∈ nextP L 1 xs := fun k k0 k1 => Classical.byContradiction fun z => by
    have := mem_fr.mpr ⟨k0, k1, z⟩
    rw [e] at this
    cases this
  have R2 : Row L (nextP L 1 xs) := by
    rw [next_range R.ne]
    exact rowOf_row (xx_rg Y 1)
  have l2 : nextP L 1 xs = (List.range L.toNat).map fun i : Nat => (i : Int) := lt_one R2.lt (List.pairwise_map.mpr ((List.pairwise_lt_range (n := L.toNat)).imp fun h => by omega)) fun k => by
    rw [List.mem_map]
    constructor
    · intro h
      have := R2.lo k h
      exact ⟨k.toNat, List.mem_range.mpr (by omega), by omega⟩
    · rintro ⟨i, hi, rfl⟩
      rw [List.mem_range] at hi
      exact full _ (by omega) (by omega)
  have l3 : xs.length = L.toNat := by
    rw [← l1, l2, List.length_map, List.length_range]
  -- xs with c is a longer row
  obtain ⟨p, W⟩ := wide_of R c0 c1 c2
  have h1 := row_le W.row (by omega)
  have h2 := W.len
  omega
theorem free_rowT (R : Row L xs) (hne : frP L xs ≠ []) : ∀ t, frP L (rowT L 1 xs t) ≠ []
  | 0 => by rw [rowT_zero R]; exact hne
  | t + 1 => by
    rw [← rowT_next R (by omega) t]
    exact next_free (rowT_row R (by omega) t) (free_rowT R hne t)
theorem mir_rowT (R : Row L xs) (hne : frP L xs ≠ []) (hL : 2 ≤ L) : ∀ t, rowT L 1 (mirP L xs) t = mirP L (rowT L 1 xs t)
  | 0 => by rw [rowT_zero R, rowT_zero (mir_row hne)]
  | t + 1 => by
    rw [← rowT_next (mir_row hne) (by omega) t, mir_rowT R hne hL t, mir_next (rowT_row R (by omega) t) (free_rowT R hne t) hL, rowT_next R (by omega) t]
end
end Gm
end
section
set_option autoImplicit false
set_option linter.all false
namespace Gm
variable {L r : Int} {xs ws : List Int} {c : Int} {p : Nat}
theorem sm_split (W : Wide L xs c p ws) (f : Nat → Int) : sm (xs.length + 1) f = sm xs.length (fun j => f (sig xs.length p j)) + f p := by
  have hp := W.le
  have e1 : List.range (xs.length + 1) = List.range p ++ p :: (List.range (xs.length - p)).map fun i => p + 1 + i := by
    rw [show xs.length + 1 = p + (1 + (xs.length - p)) by omega, List.range_add, List.range_add, List.map_append, List.map_map]
    simp [Nat.add_assoc, Function.comp_def]
  have e2 : List.range xs.length = List.range p ++ (List.range (xs.length - p)).map fun i => p + i := by
    conv => lhs; rw [show xs.length = p + (xs.length - p) by omega, List.range_add]
  rw [← sum_range, ← sum_range, e1, e2, List.map_append, List.map_append, List.map_cons, List.map_map, List.map_map, List.sum_append, List.sum_append, List.sum_cons]
  have g1 : (List.range p).map f = (List.range p).map fun j => f (sig xs.length p j) := List.map_congr_left fun j hj => by
    rw [sig_lt hp (List.mem_range.mp hj)]
  have g2 : (List.range (xs.length - p)).map (f ∘ fun i => p + 1 + i) = (List.range (xs.length - p)).map ((fun j => f (sig xs.length p j)) ∘ fun i => p + i) := List.map_congr_left fun k hk => by
    have := List.mem_range.mp hk
    show f (p + 1 + k) = f (sig xs.length p (p + k))
    rw [sig_ge hp (by omega) (by omega), show p + 1 + k = p + k + 1 by omega]
  rw [g1, g2]
  omega
/-- at a moment the one more has made none later -/
def Zero (L r : Int) (xs ws : List Int) (p T : Nat) : Prop := ∀ j, j < xs.length → xx r (ext L xs) T j = xx r (ext L ws) T (sig xs.length p j)
theorem Zero.all (W : Wide L xs c p ws) (R : Row L xs) (hr : 0 ≤ r) {T : Nat} (h : Zero L r xs ws p T) : ∀ j, xx r (ext L xs) T j = xx r (ext L ws) T (sig xs.length p j) := by
  have hn := List.length_pos_iff.mpr R.ne
  intro j
  induction j using Nat.strongRecOn with
  | ind j ih =>
    by_cases w : j < xs.length
    · exact h j w
    · obtain ⟨k, rfl⟩ : ∃ k, j = k + xs.length := ⟨j - xs.length, by omega⟩
      have e := xx_per (W.row.rg hr) T (sig xs.length p k)
      rw [W.len] at e
      rw [sig_per hn, xx_per (R.rg hr), e, ih k (by omega)]
theorem xx_up {n : Nat} {a : Nat → Int} (R : Rg L r n a) (t j : Nat) : ∀ k, xx r a t j ≤ xx r a (t + k) j
  | 0 => Int.le_refl _
  | k + 1 => by
    have := xx_up R t j k
    have e : xx r a (t + (k + 1)) j = min (xx r a (t + k) j + r) (xx r a (t + k) (j + 1) - 1) := xx_succ (t + k) j
    have := xx_inc R (t + k) j
    have := R.r0
    omega
theorem xx_add' (a : Nat → Int) (t s : Nat) : xx r a (t + s) = xx r (xx r a t) s := funext fun j => xx_add t s j
/-- where there is no room for one more it makes others later, in the end -/
theorem Wide.never (W : Wide L xs c p ws) (R : Row L xs) (hr : 1 ≤ r) {s k : Nat} (hA : Runs r (xx r (ext L xs) s) ∨ Backs r (xx r (ext L xs) s)) (hB : Runs r (xx r (ext L ws) s) ∨ Backs r (xx r (ext L ws) s)) (no : L < (r + 1) * ((xs.length : Int) + 1)) (hk : L ≤ (k : Int)) (z0 : Zero L r xs ws p s) (z1 : Zero L r xs ws p (s + k)) : False := by
  have r0 : 0 ≤ r := by omega
  have hn := List.length_pos_iff.mpr R.ne
  have YA := xx_rg (R.rg r0) s
  have YB := xx_rg (W.row.rg r0) s
  have L0 := YA.L0
  have fA := flow_many YA hA k
  have fB := flow_many YB hB k
  rw [← xx_add', W.len] at fB
  rw [← xx_add'] at fA
  rw [sm_split W, sm_split W] at fB
  have s0 : sm xs.length (xx r (ext L xs) s) = sm xs.length (fun j => xx r (ext L ws) s (Gm.sig xs.length p j)) := sm_congr z0
  have s1 : sm xs.length (xx r (ext L xs) (s + k)) = sm xs.length (fun j => xx r (ext L ws) (s + k) (Gm.sig xs.length p j)) := sm_congr z1
  rw [← s0, ← s1] at fB
  have e1 : (r + 1) * ((xs.length : Int) + 1) = r * (xs.length : Int) + r + (xs.length : Int) + 1 := by
    rw [Int.add_mul, Int.mul_add]
    omega
  have e2 : r * (((xs.length + 1 : Nat)) : Int) = r * (xs.length : Int) + r := by
    rw [Int.natCast_succ, Int.mul_add]
    omega
  rw [e2, Int.natCast_succ, show min (r * (xs.length : Int) + r) (L - ((xs.length : Int) + 1)) = L - (xs.length : Int) - 1 by omega] at fB
  have up := xx_up (W.row.rg r0) s p k
  by_cases q : L - (xs.length : Int) ≤ r * (xs.length : Int)
  · rw [show min (r * (xs.length : Int)) (L - (xs.length : Int)) = L - (xs.length : Int) by omega] at fA
    have e3 : (L - (xs.length : Int) - 1) * (k : Int) = (L - (xs.length : Int)) * (k : Int) - (k : Int) := by
      rw [Int.sub_mul]
      omega
    rw [e3] at fB
    omega
  · rw [show min (r * (xs.length : Int)) (L - (xs.length : Int)) = r * (xs.length : Int) by omega] at fA
    have run : Runs r (xx r (ext L xs) s) := (runs_iff_room YA hA).mpr (by rw [Int.mul_add, Int.mul_comm]; omega)
    have go := runs_go run k (p + xs.length - 1)
    rw [← xx_add'] at go
    have y0 := z0.all W R r0 (p + xs.length - 1)
    have y1 := z1.all W R r0 (p + xs.length - 1)
    have hs : Gm.sig xs.length p (p + xs.length - 1) = p + xs.length := by
      have hp := W.le
      unfold Gm.sig
      rw [Nat.div_eq_of_lt_le (k := 1) (by omega) (by omega)]
      omega
    rw [hs] at y0 y1
    have i1 := xx_inc (W.row.rg r0) (s + k) (p + xs.length)
    have e4 := xx_per (W.row.rg r0) (s + k) p
    rw [W.len, ← Nat.add_assoc] at e4
    rw [e4] at i1
    have i2 := inc_lt YB (i := p) (j := p + xs.length) (by omega)
    have low : (L - (xs.length : Int) - 1) * (k : Int) - r * (xs.length : Int) * (k : Int) ≤ r * (k : Int) - (k : Int) := by
      have : (L - (xs.length : Int) - 1 - r * (xs.length : Int)) * (k : Int) ≤ (r - 1) * (k : Int) := Int.mul_le_mul_of_nonneg_right (by omega) (by omega)
      rw [Int.sub_mul, Int.sub_mul r] at this
      omega
    omega
/-- where there is room for one more: as at the moment at which both settled, so ever -/
theorem Wide.stay (W : Wide L xs c p ws) (R : Row L xs) (hr : 1 ≤ r) {s : Nat} (hA : Runs r (xx r (ext L xs) s) ∨ Backs r (xx r (ext L xs) s)) (hB : Runs r (xx r (ext L ws) s) ∨ Backs r (xx r (ext L ws) s)) (room : (r + 1) * ((xs.length : Int) + 1) ≤ L) (z0 : Zero L r xs ws p s) (k : Nat) : Zero L r xs ws p (s + k) := by
  have r0 : 0 ≤ r := by omega
  have YA := xx_rg (R.rg r0) s
  have YB := xx_rg (W.row.rg r0) s
  have e1 : (r + 1) * ((xs.length : Int) + 1) = (r + 1) * (xs.length : Int) + r + 1 := by
    rw [Int.mul_add]
    omega
  have ra : Runs r (xx r (ext L xs) s) := (runs_iff_room YA hA).mpr (by rw [Int.mul_comm]; omega)
  have rb : Runs r (xx r (ext L ws) s) := (runs_iff_room YB hB).mpr (by rw [W.len, Int.natCast_succ, Int.mul_comm]; omega)
  intro j hj
  rw [xx_add', xx_add', runs_go ra k j, runs_go rb k (Gm.sig xs.length p j), z0 j hj]
/-- never later, by the moments that are looked at -/
theorem Wide.ever (W : Wide L xs c p ws) (R : Row L xs) (hr : 1 ≤ r) {s m K : Nat} (hA : Runs r (xx r (ext L xs) s) ∨ Backs r (xx r (ext L xs) s)) (hB : Runs r (xx r (ext L ws) s) ∨ Backs r (xx r (ext L ws) s)) (hm : s ≤ m) (hK : (s : Int) + L ≤ (K : Int)) (h : ∀ T, T ≤ m → Zero L r xs ws p T) (z : Zero L r xs ws p K) : (r + 1) * ((xs.length : Int) + 1) ≤ L ∧ ∀ T, Zero L r xs ws p T := by
  by_cases room : (r + 1) * ((xs.length : Int) + 1) ≤ L
  · refine ⟨room, fun T => ?_⟩
    by_cases q : T ≤ m
    · exact h T q
    · obtain ⟨k, rfl⟩ : ∃ k, T = s + k := ⟨T - s, by omega⟩
      exact W.stay R hr hA hB room (h s hm) k
  · have L0 := (R.rg (show 0 ≤ r by omega)).L0
    obtain ⟨k, rfl⟩ : ∃ k, K = s + k := ⟨K - s, by omega⟩
    exact (W.never R hr hA hB (by omega) (by omega) (h s hm) z).elim
end Gm
end
section
set_option autoImplicit false
set_option linter.all false
set_option maxRecDepth 100000
namespace Gc
open PySem Mi
open Gm (nextsP gapsP movedP nextP rowT Runs Backs xx ext bb wm rowOf Row sm Wide sig Zero)
variable {M M' M2 : Mst} {L r : Int} {xs : List Int}
theorem truths_ints (ys : List Int) : truths (ys.map .int) = some (ys.map fun z => decide (z ≠ 0)) := by
  induction ys with
  | nil => rfl
  | cons y ys ih =>
    rw [List.map_cons]
    unfold truths
    rw [ih]
    rfl
theorem any_rowI (ys : List Int) : b1D .any (row ys) = some (.bl (ys.any fun z => decide (z ≠ 0))) := by
  show ((items (row ys)).bind fun xs => (truths xs).map fun bs => D.bl (bs.any id)) = _
  rw [show items (row ys) = some (ys.map .int) from rfl, Option.bind_some, truths_ints, Option.map_some, List.any_map]
  rfl
theorem less_zero {ws : List Int} {p T : Nat} : (lessP L r xs ws p T).any (fun z => decide (z ≠ 0)) = false ↔ Zero L r xs ws p T := by
  unfold lessP
  rw [List.any_map, List.any_eq_false]
  constructor
  · intro h j hj
    have := h j (List.mem_range.mpr hj)
    simp only [Function.comp_def, decide_eq_true_eq, Classical.not_not] at this
    omega
  · intro h j hj
    have := h j (List.mem_range.mp hj)
    simp only [Function.comp_def, decide_eq_true_eq, Classical.not_not]
    omega
theorem SetAt.math (h : RR L r xs) {s : Nat} (hs : SetAt L r xs s) : Runs r (xx r (ext L xs) s) ∨ Backs r (xx r (ext L xs) s) := by
  have := hs.at_
  rw [runB_iff h, backB_iff h] at this
  exact this
theorem set_later {a : Nat → Int} {s t : Nat} (h : Runs r (xx r a s) ∨ Backs r (xx r a s)) (ht : s ≤ t) : Runs r (xx r a t) ∨ Backs r (xx r a t) := by
  obtain ⟨k, rfl⟩ : ∃ k, t = s + k := ⟨t - s, by omega⟩
  rw [Gm.xx_add']
  exact Gm.settled_stay h k
open Classical in
/-- whether one more on a cell never makes another one later -/
noncomputable def evB (L r : Int) (xs ws : List Int) (p : Nat) : Bool := decide (∀ T, Zero L r xs ws p T)
open Classical in
theorem evB_iff {ws : List Int} {p : Nat} : evB L r xs ws p = true ↔ ∀ T, Zero L r xs ws p T := by
  unfold evB
  exact decide_eq_true_iff
/-- by a moment at which both settled, and one that is far enough behind it -/
theorem ever_iff (h : RR L r xs) {c : Int} {p : Nat} (W : Wide L xs c p (wideP xs c)) {s m K : Nat} (h1 : Runs r (xx r (ext L xs) s) ∨ Backs r (xx r (ext L xs) s)) (h2 : Runs r (xx r (ext L (wideP xs c)) s) ∨ Backs r (xx r (ext L (wideP xs c)) s)) (hm : s ≤ m) (hK : (s : Int) + L ≤ (K : Int)) : ((∀ T, T ≤ m → Zero L r xs (wideP xs c) p T) ∧ Zero L r xs (wideP xs c) p K) ↔ evB L r xs (wideP xs c) p = true := by
  rw [evB_iff]
  exact ⟨fun ⟨a, b⟩ => (W.ever h.good h.ring.r.1 h1 h2 hm hK a b).2, fun a => ⟨fun T _ => a T, a K⟩⟩
theorem ever_room (h : RR L r xs) {c : Int} {p : Nat} (W : Wide L xs c p (wideP xs c)) (e : evB L r xs (wideP xs c) p = true) : (r + 1) * ((xs.length : Int) + 1) ≤ L := by
  rw [evB_iff] at e
  have h2 : RR L r (wideP xs c) := ⟨h.ring, W.row⟩
  obtain ⟨s1, hs1⟩ := h.set
  obtain ⟨s2, hs2⟩ := h2.set
  have L0 := h.L0
  exact (W.ever (s := max s1 s2) (m := max s1 s2) (K := max s1 s2 + L.toNat) h.good h.ring.r.1 (set_later (hs1.math h) (by omega)) (set_later (hs2.math h2) (by omega)) (Nat.le_refl _) (by omega) (fun T _ => e T) (e _)).1
theorem is_harmless_K (h : RR L r xs) {c : Int} {p K : Nat} (W : Wide L xs c p (wideP xs c)) (hK0 : 1000 ≤ K) (hK : (K : Int) ≤ 1000000000000000000) : runDef (tbl T_is_harmless) 6 [.set 3 (.b1 .tuple (.b1 .sorted (.bin .add (.var 1) (.tup (.cons (.var 2) .nil))))), .set 4 (.bin .add (.b2 .max (.sub (.call 55 (.cons (.var 0) (.cons (.var 1) .nil))) (.int 0)) (.sub (.call 55 (.cons (.var 0) (.cons (.var 3) .nil))) (.int 0))) (.int 1)), .ret (.not (.b1 .any (.comp (.b1 .any (.call 23 (.cons (.var 0) (.cons (.var 1) (.cons (.var 2) (.cons (.var 5) .nil)))))) [5] (.seq (.bin .add (.lrg (.rng (.bin .add (.var 4) (.int 1)))) (.lst (.cons (.gl "FARTHEST" (.int (K : Nat))) .nil)))))))] [rgD L r, row xs, .int c] M = .ok (.bl (evB L r xs (wideP xs c) p)) M := by
  rw [run_eq]
  have hL := h.ring.L
  have few := h.few24
  have h2 : RR L r (wideP xs c) := ⟨h.ring, W.row⟩
  have few2 := h2.few24
  obtain ⟨s1, hs1⟩ := h.set
  obtain ⟨s2, hs2⟩ := h2.set
  have l1 := hs1.lt
  have l2 := hs2.lt
  obtain ⟨u, v, w1, w2, w3⟩ := wide3 h c
  have a1 := settled_ok (M := M) h hs1
  have a2 := settled_ok (M := M) h2 hs2
  have key := ever_iff h W (s := max s1 s2) (m := max s1 s2 + 1) (K := K) (set_later (hs1.math h) (by omega)) (set_later (hs2.math h2) (by omega)) (by omega) (by omega)
  simp only [List.map_cons, List.map_nil, List.length_cons, List.length_nil, List.cons_append, List.nil_append]
  rw [show List.replicate (6 - (0 + 1 + 1 + 1)) Slot.no = [Slot.no, .no, .no] from rfl]
  have al : ∀ T : Nat, (T : Int) ≤ 1000000000000000000 → f_all_later [rgD L r, row xs, .int c, .int (T : Nat)] M = .ok (row (lessP L r xs (wideP xs c) p T)) M := fun T hT => all_later_ok h W hT
  generalize wideP xs c = ws at *
  refine fin_step (ρ' := [.v (rgD L r), .v (row xs), .v (.int c), .v (row ws), .no, .no]) (M' := M) (by simp -implicitDefEqProofs [w1, w2, w3]) ?_
  have t1 : ∀ s w, subD M (.tup [.int (s : Nat), .str w, row (rowT L r xs s)]) (.int 0) = some (.int ((s : Nat) : Int)) := fun s w => rfl
  have t2 : ∀ s w, subD M (.tup [.int (s : Nat), .str w, row (rowT L r ws s)]) (.int 0) = some (.int ((s : Nat) : Int)) := fun s w => rfl
  have mx : max (s1 : Int) (s2 : Int) + 1 = ((max s1 s2 + 1 : Nat) : Int) := by omega
  refine fin_step (ρ' := [.v (rgD L r), .v (row xs), .v (.int c), .v (row ws), .v (.int ((max s1 s2 + 1 : Nat) : Int)), .no]) (M' := M) (by simp -implicitDefEqProofs [a1, a2, t1, t2, max_b2, mx]) ?_
  generalize max s1 s2 + 1 = m at *
  have o1 : rngOk 0 ((m : Int) + 1) = true := rngOk_0 (by omega) (by omega)
  have ei : MI.den (tbl T_is_harmless) (.seq (.bin .add (.lrg (.rng (.bin .add (.var 4) (.int 1)))) (.lst (.cons (.gl "FARTHEST" (.int (K : Nat))) .nil)))) [.v (rgD L r), .v (row xs), .v (.int c), .v (row ws), .v (.int (m : Nat)), .no] M = .ok ((List.range (m + 1) ++ [K]).map fun i : Nat => D.int (i : Nat)) M := by
    have ad : binD .add (.lst ((List.range (m + 1)).map fun i : Nat => D.int (i : Nat))) (.lst [.int (K : Nat)]) = some (.lst ((List.range (m + 1) ++ [K]).map fun i : Nat => D.int (i : Nat))) := by
      rw [add_lsts (by simp [line]; omega), List.map_append]
      rfl
    have er : rngI 0 ((m : Int) + 1) = (List.range (m + 1)).map fun i : Nat => D.int (i : Nat) := by
      rw [← rngI_nat]
      rfl
    simp -implicitDefEqProofs [o1, er, ad]
  have ec : ME.den (tbl T_is_harmless) (.b1 .any (.comp (.b1 .any (.call 23 (.cons (.var 0) (.cons (.var 1) (.cons (.var 2) (.cons (.var 5) .nil)))))) [5] (.seq (.bin .add (.lrg (.rng (.bin .add (.var 4) (.int 1)))) (.lst (.cons (.gl "FARTHEST" (.int (K : Nat))) .nil)))))) [.v (rgD L r), .v (row xs), .v (.int c), .v (row ws), .v (.int (m : Nat)), .no] M = .ok (.bl ((List.range (m + 1) ++ [K]).any fun T => (lessP L r xs ws p T).any fun z => decide (z ≠ 0))) M := by
    rw [den_b1, comp_el, ei, bind_ok_, compD_mapI (g := fun T : Nat => D.bl ((lessP L r xs ws p T).any fun z => decide (z ≠ 0))), bind_ok_, bind_ok_, any_bls]
    · rfl
    · intro T hT
      have q1 := al T (by
        rcases List.mem_append.mp hT with w | w
        · have := List.mem_range.mp w
          omega
        · rw [List.mem_singleton.mp w]
          exact hK)
      have q2 := any_rowI (lessP L r xs ws p T)
      generalize row (lessP L r xs ws p T) = W at q1 q2
      simp -implicitDefEqProofs [elF, q1, q2]
  rw [dens_cons, den_ret, den_not, ec, bind_ok_]
  have fin : (!((List.range (m + 1) ++ [K]).any fun T => (lessP L r xs ws p T).any fun z => decide (z ≠ 0))) = evB L r xs ws p := by
    rw [Bool.eq_iff_iff, ← key, Bool.not_eq_true', List.any_eq_false]
    constructor
    · intro q
      have q2 : ∀ T, T ∈ List.range (m + 1) ++ [K] → Zero L r xs ws p T := fun T hT => less_zero.mp (by simpa using q T hT)
      exact ⟨fun T hT => q2 T (List.mem_append_left _ (List.mem_range.mpr (by omega))), q2 K (by simp)⟩
    · rintro ⟨q1, q2⟩ T hT
      rw [Bool.not_eq_true, less_zero]
      rcases List.mem_append.mp hT with w | w
      · exact q1 T (by have := List.mem_range.mp w; omega)
      · rw [List.mem_singleton.mp w]
        exact q2
  rw [← fin]
  generalize ((List.range (m + 1) ++ [K]).any fun T => (lessP L r xs ws p T).any fun z => decide (z ≠ 0)) = b
  cases b <;> rfl
theorem is_harmless_ok (h : RR L r xs) {c : Int} {p : Nat} (W : Wide L xs c p (wideP xs c)) : f_is_harmless [rgD L r, row xs, .int c] M = .ok (.bl (evB L r xs (wideP xs c) p)) M := is_harmless_K (K := 1000000000000000000) h W (by omega) (by omega)
/-- the cells on which one more is harmless -/
noncomputable def harmP (L r : Int) (xs : List Int) (P : Int → Nat) : List Int := (freeP L xs).filter fun c => evB L r xs (wideP xs c) (P c)
theorem harmless_ok (h : RR L r xs) {P : Int → Nat} (hP : ∀ c ∈ freeP L xs, Wide L xs c (P c) (wideP xs c)) : f_harmless [rgD L r, row xs] M = .ok (.lst ((harmP L r xs P).map .int)) M := by
  show runDef (tbl T_harmless) 3 b_harmless _ M = _
  rw [run_eq]
  have hL := h.ring.L
  have e3 : rngOk 0 L = true := rngOk_0 (by omega) (by omega)
  unfold b_harmless
  simp only [List.map_cons, List.map_nil, List.length_cons, List.length_nil, List.cons_append, List.nil_append]
  rw [show List.replicate (3 - (0 + 1 + 1)) Slot.no = [Slot.no] from rfl]
  refine fin_step (ρ' := [.v (rgD L r), .v (row xs), .no]) (M' := M) (by simp -implicitDefEqProofs [need_row_ok h.ring h.good]) ?_
  have ei : MI.den (tbl T_harmless) (.rng (.sub (.var 0) (.int 0))) [.v (rgD L r), .v (row xs), .no] M = .ok (((List.range L.toNat).map fun i : Nat => (i : Int)).map .int) M := by
    rw [← rng_ints]
    simp -implicitDefEqProofs [e3]
  rw [dens_cons, den_ret, compIf_cf, ei, bind_ok_, fil_ints (p := fun c => !decide (c ∈ xs) && evB L r xs (wideP xs c) (P c)), bind_ok_]
  · have : harmP L r xs P = ((List.range L.toNat).map fun i : Nat => (i : Int)).filter fun c => !decide (c ∈ xs) && evB L r xs (wideP xs c) (P c) := by
      unfold harmP freeP
      rw [List.filter_filter]
      refine List.filter_congr fun c _ => ?_
      rw [Bool.and_comm]
    rw [this]
    rfl
  · intro c hc
    obtain ⟨i, hi, rfl⟩ := List.mem_map.mp hc
    have hi := List.mem_range.mp hi
    by_cases q : (i : Int) ∈ xs
    · simp -implicitDefEqProofs [cfF, nin_row, q]
    · have a1 : f_is_harmless [rgD L r, row xs, .int (i : Int)] M = .ok (.bl (evB L r xs (wideP xs i) (P i))) M := is_harmless_ok h (hP i ((free_mem (by omega)).mpr ⟨by omega, by omega, q⟩))
      cases e : evB L r xs (wideP xs i) (P i) <;> rw [e] at a1 <;> simp -implicitDefEqProofs [cfF, nin_row, q, a1]
theorem harmless_bad (h : Ring L r) {d : D} (q : ∀ M, f_is_good_row [rgD L r, d] M = .ok (.bl false) M) : f_harmless [rgD L r, d] M = .exc 1 M := by
  have a1 : ∀ M, f_need_row [rgD L r, d] M = .exc 1 M := fun M => by
    show runDef (tbl T_need_row) 2 b_need_row _ M = _
    rw [run_eq]
    simp -implicitDefEqProofs [b_need_row, need_ring_ok h, q, finD]
  show runDef (tbl T_harmless) 3 b_harmless _ M = _
  rw [run_eq]
  simp -implicitDefEqProofs [b_harmless, a1 M, finD]
end Gc
end
section
set_option autoImplicit false
set_option linter.all false
namespace Gm
theorem div_at {L q u : Int} (h0 : 0 ≤ u) (h1 : u < L) : (L * q + u) / L = q := by
  rw [Int.add_comm, Int.add_mul_ediv_left _ _ (by omega), Int.ediv_eq_zero_of_lt h0 h1]
  omega
theorem mod_at {L q u : Int} (h0 : 0 ≤ u) (h1 : u < L) : (L * q + u) % L = u := by
  rw [Int.add_comm, Int.add_mul_emod_self_left, Int.emod_eq_of_lt h0 h1]
theorem mul_pred (L q : Int) : L * (q - 1) = L * q - L := by rw [Int.mul_sub, Int.mul_one]
theorem mul_next (L q : Int) : L * (q + 1) = L * q + L := by rw [Int.mul_add, Int.mul_one]
/-- past a gate, one cell on -/
theorem pass_one {L c : Int} (z : Int) (h0 : 0 ≤ c) (h1 : c < L) : (z + 1 - c - 1) / L - (z - c - 1) / L = if z % L = c then 1 else 0 := by
  have hL : L ≠ 0 := by omega
  have t0 := Int.emod_nonneg z hL
  have t1 := Int.emod_lt_of_pos z (show 0 < L by omega)
  have ez := Int.mul_ediv_add_emod z L
  generalize z % L = t at *
  generalize z / L = q at *
  subst ez
  have e1 := mul_pred L q
  by_cases w : t < c
  · rw [if_neg (by omega), show L * q + t + 1 - c - 1 = L * (q - 1) + (L + t - c) by omega, show L * q + t - c - 1 = L * (q - 1) + (L + t - c - 1) by omega, div_at (by omega) (by omega), div_at (by omega) (by omega)]
    omega
  · by_cases w2 : t = c
    · rw [if_pos w2, show L * q + t + 1 - c - 1 = L * q + 0 by omega, show L * q + t - c - 1 = L * (q - 1) + (L - 1) by omega, div_at (by omega) (by omega), div_at (by omega) (by omega)]
      omega
    · rw [if_neg w2, show L * q + t + 1 - c - 1 = L * q + (t - c) by omega, show L * q + t - c - 1 = L * q + (t - c - 1) by omega, div_at (by omega) (by omega), div_at (by omega) (by omega)]
      omega
/-- past a gate, some cells on -/
theorem pass_some {L c : Int} (a : Int) (h0 : 0 ≤ c) (h1 : c < L) : ∀ k : Nat, ((((List.range k).map fun i : Nat => a + (i : Int)).filter fun z => decide (z % L = c)).length : Int) = (a + (k : Int) - c - 1) / L - (a - c - 1) / L
  | 0 => by simp
  | k + 1 => by
    have e := pass_one (a + (k : Int)) h0 h1
    rw [List.range_succ, List.map_append, List.filter_append, List.length_append, Int.natCast_add, pass_some a h0 h1 k, show a + ((k + 1 : Nat) : Int) - c - 1 = a + (k : Int) + 1 - c - 1 by omega]
    by_cases w : (a + (k : Int)) % L = c
    · rw [if_pos w] at e
      simp [w]
      omega
    · rw [if_neg w] at e
      simp [w]
      omega
/-- past a gate at a beat: by how far off it is -/
theorem pass_now {L c : Int} (a g : Int) (hL : 0 < L) (g0 : 0 ≤ g) (g1 : g ≤ L) : (a + g - c - 1) / L - (a - c - 1) / L = if (c - a) % L < g then 1 else 0 := by
  have hL' : L ≠ 0 := by omega
  have t0 := Int.emod_nonneg (a - c - 1) hL'
  have t1 := Int.emod_lt_of_pos (a - c - 1) hL
  have ez := Int.mul_ediv_add_emod (a - c - 1) L
  generalize ht : (a - c - 1) % L = t at *
  generalize hq : (a - c - 1) / L = q at *
  have e1 := mul_next L q
  have e2 : L * (-q - 1) = -(L * q) - L := by rw [Int.mul_sub, Int.mul_neg, Int.mul_one]
  rw [show c - a = L * (-q - 1) + (L - 1 - t) by omega, mod_at (by omega) (by omega)]
  by_cases w : t + g < L
  · rw [if_neg (by omega), show a + g - c - 1 = L * q + (t + g) by omega, div_at (by omega) w]
    omega
  · rw [if_pos (by omega)]
    by_cases w2 : t + g - L < L
    · rw [show a + g - c - 1 = L * (q + 1) + (t + g - L) by omega, div_at (by omega) w2]
      omega
    · omega
theorem len_filter {n : Nat} (p : Nat → Bool) : (((List.range n).filter p).length : Int) = sm n fun j => if p j then 1 else 0 := by
  induction n with
  | zero => rfl
  | succ n ih =>
    rw [List.range_succ, List.filter_append, List.length_append, Int.natCast_add, ih]
    show _ = sm n _ + _
    cases h : p n <;> simp [h]
theorem xx_top {r : Int} {a : Nat → Int} (t j : Nat) : xx r a t j ≤ a j + r * (t : Int) := by
  induction t with
  | zero => rw [xx_zero]; simp
  | succ t ih =>
    rw [xx_succ, Int.natCast_succ, Int.mul_add]
    omega
end Gm
end
section
set_option autoImplicit false
set_option linter.all false
set_option maxRecDepth 100000
namespace Gc
open PySem Mi
open Gm (nextsP gapsP movedP nextP rowT Runs Backs xx ext bb wm rowOf Row sm Wide sig Zero)
variable {M M' M2 : Mst} {L r : Int} {xs ys : List Int}
theorem rowT_rowT (h : RR L r xs) (T : Nat) : ∀ m : Nat, rowT L r (rowT L r xs T) m = rowT L r xs (T + m)
  | 0 => Gm.rowT_zero (h.at_ T).good
  | m + 1 => by
    rw [← Gm.rowT_next (h.at_ T).good h.r0 m, rowT_rowT h T m, Gm.rowT_next h.good h.r0]
    rfl
/-- what a gate hears of a row behind -/
theorem near_pass (h : RR L r xs) (c : Int) (T m : Nat) : passP L r (rowT L r xs T) c m = passP L r xs c (T + m) - passP L r xs c T := by
  have L0 := h.L0
  unfold passP
  rw [Gm.rowT_len]
  have Y := Gm.xx_rg h.rg T
  obtain ⟨s, q, e⟩ := Gm.ext_rowOf Y
  have e2 : ext L (rowT L r xs T) = fun j => xx r (ext L xs) T (j + s) - L * q := funext e
  have e4 : xx r (fun j => xx r (ext L xs) T (j + s) - L * q) m = fun j => xx r (xx r (ext L xs) T) m (j + s) - L * q := funext fun j => Gm.xx_shift s (L * q) m j
  rw [e2, e4, Gm.xx_add']
  have sub : ∀ a : Int, (a - L * q - c - 1) / L = (a - c - 1) / L - q := fun a => by
    rw [show a - L * q - c - 1 = a - c - 1 + L * (-q) by rw [Int.mul_neg]; omega, Int.add_mul_ediv_left _ _ (by omega)]
    omega
  have per : ∀ {y : Nat → Int}, Gm.Rg L r xs.length y → ∀ j, (fun j => (y j - c - 1) / L) (j + xs.length) = (fun j => (y j - c - 1) / L) j + 1 := fun Z j => by
    show (_ - c - 1) / L = (_ - c - 1) / L + 1
    rw [Z.per, show ∀ b : Int, b + L - c - 1 = b - c - 1 + L * 1 by intro b; omega, Int.add_mul_ediv_left _ _ (by omega)]
  have f1 := Gm.sm_shift (n := xs.length) (f := fun j => (xx r (ext L xs) T j - c - 1) / L) (c := 1) (per Y) s
  have f2 := Gm.sm_shift (n := xs.length) (f := fun j => (xx r (xx r (ext L xs) T) m j - c - 1) / L) (c := 1) (per (Gm.xx_rg Y m)) s
  simp only [sub]
  rw [Gm.sm_sub, Gm.sm_sub, Gm.sm_sub, Gm.sm_sub, Gm.sm_sub, f1, f2, Gm.sm_const]
  omega
/-- how many a gate hears at a beat -/
def hearP (L r : Int) (xs : List Int) (c : Int) (T : Nat) : Int := passP L r xs c (T + 1) - passP L r xs c T
theorem pass_zero (h : RR L r xs) (c : Int) : passP L r xs c 0 = 0 := by
  have := near_pass h c 0 0
  rw [Gm.rowT_zero h.good] at this
  have this : passP L r xs c 0 = passP L r xs c 0 - passP L r xs c 0 := this
  omega
theorem hear_row (h : RR L r xs) (c : Int) (T : Nat) : hearP L r xs c T = hearP L r (rowT L r xs T) c 0 := by
  unfold hearP
  rw [near_pass h, near_pass h]
  simp
theorem heard_now_ok (h : RR L r xs) (c : Int) : f_heard_now [rgD L r, row xs, .int c] M = .ok (.int (hearP L r xs c 0)) M := by
  show runDef (tbl T_heard_now) 6 b_heard_now _ M = _
  rw [run_eq]
  have hL := h.ring.L
  have hr := h.ring.r
  have few := h.few24
  have a1 : f_goings [rgD L r, row xs] M = .ok (row ((gapsP L xs).map (min r))) M := goings_ok h.ne h.few
  have eg : (gapsP L xs).map (min r) = (List.range xs.length).map fun j => min r (ext L xs (j + 1) - ext L xs j - 1) := by
    rw [Gm.gaps_range h.ne, List.map_map]
    rfl
  rw [eg] at a1
  have ig : items (row ((List.range xs.length).map fun j => min r (ext L xs (j + 1) - ext L xs j - 1))) = some ((List.range xs.length).map fun j => D.int (min r (ext L xs (j + 1) - ext L xs j - 1))) := by
    show some (List.map _ _) = _
    rw [List.map_map]
    rfl
  have ix := items_rowR L xs
  unfold b_heard_now
  simp only [List.map_cons, List.map_nil, List.length_cons, List.length_nil, List.cons_append, List.nil_append]
  rw [show List.replicate (6 - (0 + 1 + 1 + 1)) Slot.no = [Slot.no, .no, .no] from rfl]
  generalize row ((List.range xs.length).map fun j => min r (ext L xs (j + 1) - ext L xs j - 1)) = G at a1 ig
  refine fin_step (ρ' := [.v (rgD L r), .v (row xs), .v (.int c), .v G, .no, .no]) (M' := M) (by simp -implicitDefEqProofs [a1]) ?_
  have ei : MI.den (tbl T_heard_now) (.zip (.var 1) (.var 3)) [.v (rgD L r), .v (row xs), .v (.int c), .v G, .no, .no] M = .ok ((List.range xs.length).map fun j => D.tup [.int (ext L xs j), .int (min r (ext L xs (j + 1) - ext L xs j - 1))]) M := by
    generalize row xs = X at ix ⊢
    simp -implicitDefEqProofs [ix, ig, zip_rngD]
  have key : ((((List.range xs.length).filter fun j => decide ((c - ext L xs j) % L < min r (ext L xs (j + 1) - ext L xs j - 1))).length : Nat) : Int) = hearP L r xs c 0 := by
    rw [Gm.len_filter]
    unfold hearP
    rw [pass_zero h, Int.sub_zero]
    unfold passP
    refine Gm.sm_congr fun j hj => ?_
    have inc := h.rg.inc j
    have e1 : xx r (ext L xs) (0 + 1) j = ext L xs j + min r (ext L xs (j + 1) - ext L xs j - 1) := by
      rw [Gm.xx_succ, Gm.xx_zero, Gm.xx_zero]
      omega
    rw [e1, Gm.pass_now _ _ (by omega) (by omega) (by omega)]
    simp only [decide_eq_true_eq]
  rw [dens_cons, den_ret, den_b1, compIf_cf, ei, bind_ok_, compD_filI (h := fun j => D.tup [.int (ext L xs j), .int (min r (ext L xs (j + 1) - ext L xs j - 1))]) (p := fun j => decide ((c - ext L xs j) % L < min r (ext L xs (j + 1) - ext L xs j - 1))) (g := fun j => D.int (ext L xs j)), bind_ok_, bind_ok_, len_lst, List.length_map, key]
  · rfl
  · intro j hj
    have m1 : binD .mod (.int (c - ext L xs j)) (.int L) = some (.int ((c - ext L xs j) % L)) := mod_ints (by omega)
    by_cases q : (c - ext L xs j) % L < min r (ext L xs (j + 1) - ext L xs j - 1)
    · have q' := decide_eq_true q
      simp -implicitDefEqProofs only [cfF, asg_two, den_cmp, den_bin, den_var_, den_sub, den_int, sub_rg0]
      simp -implicitDefEqProofs [m1, q']
    · have q' := decide_eq_false q
      simp -implicitDefEqProofs [cfF, m1, q']
theorem heard_at (h : RR L r xs) (c : Int) (T : Nat) : f_heard_now [rgD L r, row (rowT L r xs T), .int c] M = .ok (.int (hearP L r xs c T)) M := by
  rw [heard_now_ok (h.at_ T) c, ← hear_row h]
theorem hear_sum (h : RR L r xs) (c : Int) (T : Nat) : ∀ m : Nat, ((List.range m).map fun i => hearP L r xs c (T + i)).sum = passP L r xs c (T + m) - passP L r xs c T
  | 0 => by simp
  | m + 1 => by
    rw [List.range_succ, List.map_append, List.sum_append, hear_sum h c T m]
    simp only [List.map_cons, List.map_nil, List.sum_cons, List.sum_nil]
    unfold hearP
    rw [show T + (m + 1) = T + m + 1 from rfl]
    omega
theorem heard_ok (h : RR L r xs) {c : Int} (h0 : 0 ≤ c) (h1 : c < L) {m : Nat} (hm : m ≤ 100) : f_heard [rgD L r, row xs, .int c, .int (m : Nat)] M = .ok (.lst ((List.range m).map fun i => D.int (hearP L r xs c i))) M := by
  show runDef (tbl T_heard) 6 b_heard _ M = _
  rw [run_eq]
  have e3 : rngOk 0 (m : Int) = true := rngOk_0 (by omega) (by omega)
  have d1 : decide ((m : Int) ≤ 100) = true := decide_eq_true (by omega)
  have d0 : decide ((0 : Int) ≤ (m : Int)) = true := decide_eq_true (by omega)
  unfold b_heard
  simp only [List.map_cons, List.map_nil, List.length_cons, List.length_nil, List.cons_append, List.nil_append]
  rw [show List.replicate (6 - (0 + 1 + 1 + 1 + 1)) Slot.no = [Slot.no, .no] from rfl]
  refine fin_step (ρ' := [.v (rgD L r), .v (row xs), .v (.int c), .v (.int (m : Nat)), .no, .no]) (M' := M) (by simp -implicitDefEqProofs [need_row_ok h.ring h.good]) ?_
  refine fin_step (ρ' := [.v (rgD L r), .v (row xs), .v (.int c), .v (.int (m : Nat)), .no, .no]) (M' := M) (by simp -implicitDefEqProofs [need_cell_ok h.ring h0 h1]) ?_
  refine fin_step (ρ' := [.v (rgD L r), .v (row xs), .v (.int c), .v (.int (m : Nat)), .no, .no]) (M' := M) (by simp -implicitDefEqProofs [is_whole_int, d0, d1]) ?_
  refine fin_step (ρ' := [.v (rgD L r), .v (row (rowT L r xs 0)), .v (.int c), .v (.int (m : Nat)), .own [], .no]) (M' := M) (by rw [Gm.rowT_zero h.good]; simp -implicitDefEqProofs) ?_
  have ei : MI.den (tbl T_heard) (.rng (.var 3)) [.v (rgD L r), .v (row (rowT L r xs 0)), .v (.int c), .v (.int (m : Nat)), .own [], .no] M = .ok ((List.range m).map fun i : Nat => D.int (i : Nat)) M := by
    rw [← rngI_nat]
    simp -implicitDefEqProofs [e3]
  rw [dens_cons, den_loop, ei, toS_ok_]
  generalize hz : forD _ _ _ _ = Z
  obtain ⟨s5, rfl⟩ := forD_st (τ := Slot) hz (fun i s => [.v (rgD L r), .v (row (rowT L r xs i)), .v (.int c), .v (.int (m : Nat)), .own ((List.range i).map fun i => D.int (hearP L r xs c i)), s]) (fun _ _ => M) .no rfl rfl (by
    rintro j x s5 hx
    obtain ⟨rfl, hj⟩ := range_at hx
    refine ⟨.v (.int (x : Nat)), ?_⟩
    have ll : ((List.range x).map fun i => D.int (hearP L r xs c i)).length < line := by
      rw [List.length_map, List.length_range]
      unfold line
      omega
    rw [asg_one, take_range (x + 1) x (fun i => D.int (hearP L r xs c i)) (by omega)]
    generalize ((List.range x).map fun i => D.int (hearP L r xs c i)) = Q at ll ⊢
    refine dens_step (ρ' := [.v (rgD L r), .v (row (rowT L r xs x)), .v (.int c), .v (.int (m : Nat)), .own (Q ++ [D.int (hearP L r xs c x)]), .v (.int (x : Nat))]) (M' := M) ?_ ?_
    · simp -implicitDefEqProofs [heard_at h, ll]
    refine dens_step (ρ' := [.v (rgD L r), .v (row (rowT L r xs (x + 1))), .v (.int c), .v (.int (m : Nat)), .own (Q ++ [D.int (hearP L r xs c x)]), .v (.int (x : Nat))]) (M' := M) ?_ rfl
    simp -implicitDefEqProofs [next_at h])
  rw [List.length_range]
  simp -implicitDefEqProofs
/-- a for loop that may return: at the first place where P -/
theorem forD_rt {γ τ : Type} {f : D → En → Mst → SR} {h : γ → D} (C : Nat → τ → En) (M : Mst) (P : Nat → Bool) (dv : Nat → D) : ∀ {xs : List γ} {i : Nat} {k : τ}, (∀ (j : Nat) (x : γ) (k : τ), xs[j]? = some x → (P (i + j) = false → ∃ k', f (h x) (C (i + j) k) M = .nx (C (i + j + 1) k') M) ∧ (P (i + j) = true → f (h x) (C (i + j) k) M = .rt (dv (i + j)) M)) →
    ((∀ j, j < xs.length → P (i + j) = false) ∧ ∃ k', forD f (xs.map h) (C i k) M = .nx (C (i + xs.length) k') M) ∨ ∃ j, j < xs.length ∧ P (i + j) = true ∧ (∀ l, l < j → P (i + l) = false) ∧ forD f (xs.map h) (C i k) M = .rt (dv (i + j)) M
  | [], i, k, hs => .inl ⟨fun j hj => absurd hj (Nat.not_lt_zero _), k, rfl⟩
  | x :: xs, i, k, hs => by
    obtain ⟨a1, a2⟩ := hs 0 x k rfl
    simp only [Nat.add_zero] at a1 a2
    cases hp : P i with
    | true =>
      refine .inr ⟨0, by simp, by simpa using hp, fun l hl => absurd hl (Nat.not_lt_zero _), ?_⟩
      rw [List.map_cons]
      unfold forD
      rw [a2 hp]
      rfl
    | false =>
      obtain ⟨k1, e1⟩ := a1 hp
      have ih := forD_rt (f := f) (h := h) C M P dv (xs := xs) (i := i + 1) (k := k1) fun j y k ey => by
        have := hs (j + 1) y k (by simpa using ey)
        rw [show i + (j + 1) = i + 1 + j by omega] at this
        exact this
      have e2 : forD f ((x :: xs).map h) (C i k) M = forD f (xs.map h) (C (i + 1) k1) M := by
        rw [List.map_cons]
        conv => lhs; unfold forD
        rw [e1]
      rcases ih with ⟨q1, k', q2⟩ | ⟨j, q1, q2, q3, q4⟩
      · refine .inl ⟨fun j hj => ?_, k', ?_⟩
        · cases j with
          | zero => simpa using hp
          | succ j =>
            rw [show i + (j + 1) = i + 1 + j by omega]
            exact q1 j (by simpa using hj)
        · rw [e2, q2, List.length_cons, show i + (xs.length + 1) = i + 1 + xs.length by omega]
      · refine .inr ⟨j + 1, by simpa using q1, by rw [show i + (j + 1) = i + 1 + j by omega]; exact q2, fun l hl => ?_, by rw [e2, q4, show i + (j + 1) = i + 1 + j by omega]⟩
        cases l with
        | zero => simpa using hp
        | succ l =>
          rw [show i + (l + 1) = i + 1 + l by omega]
          exact q3 l (by omega)
/-- the least place where P, or nothing -/
def LeastD (P : Nat → Bool) (d : D) : Prop := (d = .non ∧ ∀ t, P t = false) ∨ ∃ t : Nat, d = .int (t : Nat) ∧ P t = true ∧ ∀ u, u < t → P u = false
theorem LeastD.one {P : Nat → Bool} {d e : D} (h : LeastD P d) (h2 : LeastD P e) : d = e := by
  rcases h with ⟨rfl, h⟩ | ⟨t, rfl, h1, h3⟩
  · rcases h2 with ⟨rfl, _⟩ | ⟨t, rfl, q1, _⟩
    · rfl
    · rw [h t] at q1
      cases q1
  · rcases h2 with ⟨rfl, q⟩ | ⟨u, rfl, q1, q2⟩
    · rw [q t] at h1
      cases h1
    · rcases Nat.lt_trichotomy t u with w | w | w
      · rw [q2 t w] at h1
        cases h1
      · rw [w]
      · rw [h3 u w] at q1
        cases q1
def unP (L r : Int) (xs ys : List Int) (c : Int) (t : Nat) : Bool := !decide (hearP L r xs c t = hearP L r ys c t)
theorem early_two (h : RR L r xs) (h2 : RR L r ys) (c : Int) {s1 l1 s2 l2 : Nat} (H : RoundAt L r xs s1 l1) (H2 : RoundAt L r ys s2 l2) (t : Nat) : ∃ u, u < max s1 s2 + l1 * l2 ∧ u ≤ t ∧ hearP L r xs c t = hearP L r xs c u ∧ hearP L r ys c t = hearP L r ys c u := by
  have P := H.rnd h
  have P2 := H2.rnd h2
  have p1 := P.pos
  have p2 := P2.pos
  have pp : 0 < l1 * l2 := Nat.mul_pos p1 p2
  by_cases w : t < max s1 s2 + l1 * l2
  · exact ⟨t, w, Nat.le_refl _, rfl, rfl⟩
  · have hd := Nat.div_add_mod (t - max s1 s2) (l1 * l2)
    have hm := Nat.mod_lt (t - max s1 s2) pp
    generalize (t - max s1 s2) / (l1 * l2) = q at hd
    generalize (t - max s1 s2) % (l1 * l2) = u at hd hm
    refine ⟨max s1 s2 + u, by omega, by omega, ?_, ?_⟩
    · have e := P.per h.good h.r0 (t := max s1 s2 + u) (by omega) (l2 * q)
      rw [← Nat.mul_assoc, show max s1 s2 + u + l1 * l2 * q = t by omega] at e
      rw [hear_row h, e, ← hear_row h]
    · have e := P2.per h2.good h2.r0 (t := max s1 s2 + u) (by omega) (l1 * q)
      rw [← Nat.mul_assoc, Nat.mul_comm l2 l1, show max s1 s2 + u + l1 * l2 * q = t by omega] at e
      rw [hear_row h2, e, ← hear_row h2]
theorem unlike_ok (h : RR L r xs) (h2 : RR L r ys) {c : Int} (h0 : 0 ≤ c) (h1 : c < L) : ∃ d, LeastD (unP L r xs ys c) d ∧ ∀ M, f_unlike [rgD L r, row xs, row ys, .int c] M = .ok d M := by
  obtain ⟨s1, hs1⟩ := h.set
  obtain ⟨l1, H⟩ := h.round hs1
  obtain ⟨s2, hs2⟩ := h2.set
  obtain ⟨l2, H2⟩ := h2.round hs2
  have few := h.few24
  have few2 := h2.few24
  have hL := h.ring.L
  have w1 := hs1.lt
  have w2 := hs2.lt
  have w3 := H.le
  have w4 := H2.le
  have p1 := H.pos
  have p2 := H2.pos
  have mle : l1 * l2 ≤ 24 * 24 := Nat.mul_le_mul (by omega) (by omega)
  obtain ⟨B, hB⟩ : ∃ B : Nat, max s1 s2 + l1 * l2 = B := ⟨_, rfl⟩
  have Ble : B ≤ 24 + 24 * 24 := by omega
  let C : Nat → Slot → En := fun i s => [.v (rgD L r), .v (row (rowT L r xs i)), .v (row (rowT L r ys i)), .v (.int c), s, .v (.tup [.int (s1 : Nat), .int (l1 : Nat)]), .v (.tup [.int (s2 : Nat), .int (l2 : Nat)])]
  let f : D → En → Mst → SR := fun x ρ M => match asg ρ [4] x with
    | some ρ => MS.dens (tbl T_unlike) [.cond (.cmp .ne (.call 19 (.cons (.var 0) (.cons (.var 1) (.cons (.var 3) .nil)))) (.call 19 (.cons (.var 0) (.cons (.var 2) (.cons (.var 3) .nil))))) [.ret (.var 4)] [], .par [1, 2] [false, false] (.cons (.call 9 (.cons (.var 0) (.cons (.var 1) .nil))) (.cons (.call 9 (.cons (.var 0) (.cons (.var 2) .nil))) .nil))] ρ M
    | none => .stuck
  have loop : ∀ M, _ := fun M => forD_rt (f := f) (h := fun i : Nat => D.int (i : Nat)) C M (unP L r xs ys c) (fun t => .int (t : Nat)) (xs := List.range B) (i := 0) (k := .no) (by
    rintro j x s4 hx
    obtain ⟨rfl, hj⟩ := range_at hx
    rw [Nat.zero_add]
    have a1 := heard_at (M := M) h c x
    have a2 := heard_at (M := M) h2 c x
    have n1 := next_at (M := M) h x
    have n2 := next_at (M := M) h2 x
    constructor
    · intro hp
      refine ⟨.v (.int (x : Nat)), ?_⟩
      have hp' : decide (hearP L r xs c x = hearP L r ys c x) = true := by
        unfold unP at hp
        simpa using hp
      show MS.dens (tbl T_unlike) _ [.v (rgD L r), .v (row (rowT L r xs x)), .v (row (rowT L r ys x)), .v (.int c), .v (.int (x : Nat)), .v (.tup [.int (s1 : Nat), .int (l1 : Nat)]), .v (.tup [.int (s2 : Nat), .int (l2 : Nat)])] M = .nx [.v (rgD L r), .v (row (rowT L r xs (x + 1))), .v (row (rowT L r ys (x + 1))), .v (.int c), .v (.int (x : Nat)), .v (.tup [.int (s1 : Nat), .int (l1 : Nat)]), .v (.tup [.int (s2 : Nat), .int (l2 : Nat)])] M
      refine dens_step (ρ' := [.v (rgD L r), .v (row (rowT L r xs x)), .v (row (rowT L r ys x)), .v (.int c), .v (.int (x : Nat)), .v (.tup [.int (s1 : Nat), .int (l1 : Nat)]), .v (.tup [.int (s2 : Nat), .int (l2 : Nat)])]) (M' := M) ?_ ?_
      · simp -implicitDefEqProofs [a1, a2, hp']
      refine dens_step (ρ' := [.v (rgD L r), .v (row (rowT L r xs (x + 1))), .v (row (rowT L r ys (x + 1))), .v (.int c), .v (.int (x : Nat)), .v (.tup [.int (s1 : Nat), .int (l1 : Nat)]), .v (.tup [.int (s2 : Nat), .int (l2 : Nat)])]) (M' := M) ?_ rfl
      simp -implicitDefEqProofs [n1, n2]
    · intro hp
      have hp' : decide (hearP L r xs c x = hearP L r ys c x) = false := by
        unfold unP at hp
        simpa using hp
      show MS.dens (tbl T_unlike) _ [.v (rgD L r), .v (row (rowT L r xs x)), .v (row (rowT L r ys x)), .v (.int c), .v (.int (x : Nat)), .v (.tup [.int (s1 : Nat), .int (l1 : Nat)]), .v (.tup [.int (s2 : Nat), .int (l2 : Nat)])] M = _
      simp -implicitDefEqProofs [a1, a2, hp'])
  have run : ∀ M (Z : SR), forD f ((List.range B).map fun i : Nat => D.int (i : Nat)) (C 0 .no) M = Z → f_unlike [rgD L r, row xs, row ys, .int c] M = finD (Z.seq fun ρ M => MS.dens (tbl T_unlike) [.ret .non] ρ M) := by
    intro M Z hZ
    show runDef (tbl T_unlike) 7 b_unlike _ M = _
    rw [run_eq]
    have a1 : f_round_at [rgD L r, row xs] M = .ok (.tup [.int (s1 : Nat), .int (l1 : Nat)]) M := round_at_ok h H
    have a2 : f_round_at [rgD L r, row ys] M = .ok (.tup [.int (s2 : Nat), .int (l2 : Nat)]) M := round_at_ok h2 H2
    unfold b_unlike
    simp only [List.map_cons, List.map_nil, List.length_cons, List.length_nil, List.cons_append, List.nil_append]
    rw [show List.replicate (7 - (0 + 1 + 1 + 1 + 1)) Slot.no = [Slot.no, .no, .no] from rfl]
    refine fin_step (ρ' := [.v (rgD L r), .v (row xs), .v (row ys), .v (.int c), .no, .no, .no]) (M' := M) (by simp -implicitDefEqProofs [need_row_ok h.ring h.good]) ?_
    refine fin_step (ρ' := [.v (rgD L r), .v (row xs), .v (row ys), .v (.int c), .no, .no, .no]) (M' := M) (by simp -implicitDefEqProofs [need_row_ok h.ring h2.good]) ?_
    refine fin_step (ρ' := [.v (rgD L r), .v (row xs), .v (row ys), .v (.int c), .no, .no, .no]) (M' := M) (by simp -implicitDefEqProofs [need_cell_ok h.ring h0 h1]) ?_
    refine fin_step (ρ' := C 0 .no) (M' := M) (by
      show _ = SR.nx [.v (rgD L r), .v (row (rowT L r xs 0)), .v (row (rowT L r ys 0)), .v (.int c), .no, .v (.tup [.int (s1 : Nat), .int (l1 : Nat)]), .v (.tup [.int (s2 : Nat), .int (l2 : Nat)])] M
      rw [Gm.rowT_zero h.good, Gm.rowT_zero h2.good]
      simp -implicitDefEqProofs [a1, a2]) ?_
    have t0 : ∀ a b : Int, subD M (.tup [.int a, .int b]) (.int 0) = some (.int a) := fun _ _ => rfl
    have t1 : ∀ a b : Int, subD M (.tup [.int a, .int b]) (.int 1) = some (.int b) := fun _ _ => rfl
    have mm : binD .mul (.int (l1 : Nat)) (.int (l2 : Nat)) = some (.int ((l1 : Int) * (l2 : Int))) := mul_small (by omega) (by omega)
    have cast : max (s1 : Int) (s2 : Int) + (l1 : Int) * (l2 : Int) = ((B : Nat) : Int) := by
      rw [← hB, Int.natCast_add, Int.natCast_mul]
      omega
    have e3 : rngOk 0 ((B : Nat) : Int) = true := rngOk_0 (by omega) (by omega)
    have ei : MI.den (tbl T_unlike) (.rng (.bin .add (.b2 .max (.sub (.var 5) (.int 0)) (.sub (.var 6) (.int 0))) (.bin .mul (.sub (.var 5) (.int 1)) (.sub (.var 6) (.int 1))))) (C 0 .no) M = .ok ((List.range B).map fun i : Nat => D.int (i : Nat)) M := by
      rw [← rngI_nat]
      simp -implicitDefEqProofs [C, t0, t1, max_b2, mm, cast, e3]
    rw [dens_cons, den_loop, ei, toS_ok_, ← hZ]
    all_goals rfl
  obtain ⟨d, hd1, hd2⟩ : ∃ d, LeastD (unP L r xs ys c) d ∧ ∀ M, f_unlike [rgD L r, row xs, row ys, .int c] M = .ok d M := by
    by_cases ex : ∃ t, unP L r xs ys c t = true
    · obtain ⟨t, ht⟩ := ex
      obtain ⟨t0, q0, q1, q2⟩ := Gm.least_of (P := fun t => unP L r xs ys c t = true) ht
      obtain ⟨u, u1, u2, u3, u4⟩ := early_two h h2 c H H2 t0
      rw [hB] at u1
      have hu : u = t0 := by
        rcases Nat.lt_or_ge u t0 with w | w
        · refine absurd ?_ (q2 u w)
          unfold unP at q1 ⊢
          rw [← u3, ← u4]
          exact q1
        · omega
      refine ⟨.int (t0 : Nat), .inr ⟨t0, rfl, q1, fun v hv => by simpa using q2 v hv⟩, fun M => ?_⟩
      rcases loop M with ⟨z, _⟩ | ⟨j, z1, z2, z3, z4⟩
      · have := z t0 (by rw [List.length_range]; omega)
        rw [Nat.zero_add, q1] at this
        cases this
      · rw [Nat.zero_add] at z2 z4
        have ej : j = t0 := by
          rcases Nat.lt_trichotomy j t0 with w | w | w
          · exact absurd z2 (q2 j w)
          · exact w
          · have := z3 t0 w
            rw [Nat.zero_add, q1] at this
            cases this
        rw [run M _ z4, ej]
        rfl
    · have no : ∀ t, unP L r xs ys c t = false := fun t => by
        cases hq : unP L r xs ys c t with
        | true => exact absurd ⟨t, hq⟩ ex
        | false => rfl
      refine ⟨.non, .inl ⟨rfl, no⟩, fun M => ?_⟩
      rcases loop M with ⟨_, k', z⟩ | ⟨j, z1, z2, z3, z4⟩
      · rw [run M _ z]
        rfl
      · rw [no] at z2
        cases z2
  exact ⟨d, hd1, hd2⟩
end Gc
end
section
set_option autoImplicit false
set_option linter.all false
set_option maxRecDepth 100000
namespace Gc
open PySem Mi
open Gm (nextsP gapsP movedP nextP rowT Runs Backs xx ext bb wm rowOf Row sm Wide sig Zero)
variable {M M' M2 : Mst} {L r : Int} {xs ys : List Int}
theorem kinds1 : kinds 1 = "BadRow" := rfl
theorem kinds2 : kinds 2 = "BadNumber" := rfl
theorem kinds3 : kinds 3 = "BadCell" := rfl
theorem kinds5 : kinds 5 = "BadShuts" := rfl
theorem kinds6 : kinds 6 = "Nothing" := rfl
theorem kinds7 : kinds 7 = "Full" := rfl
theorem pow_lit {k : Int} {K v : Int} (h : binD .pow (.int 10) (.int k) = some (.int K)) (e : binD .pow (.int 10) (.int k) = some (.int v)) : K = v := by
  rw [e] at h
  injection h with h
  injection h with h
  exact h.symm
theorem ne_ints (ys : List Int) : cmpD .ne (.lst (ys.map .int)) (.lst (ys.map .int)) = some false := by
  rw [ne_of (by simp [D.okd]) (by simp [D.okd]), eqb_ints]
  simp
theorem slc_to {ds : List D} {m : Nat} (hm : m ≤ ds.length) : slcD (.lst ds) none (some (m : Int)) = some (.lst (ds.take m)) := by
  have e1 : HT.sIx ds.length 0 none = 0 := rfl
  have e2 : HT.sIx ds.length ds.length (some (m : Int)) = m := by
    rw [HT.sIx_nat]
    omega
  show some (D.lst (cutL _ _ _)) = _
  unfold cutL
  rw [e1, e2]
  rfl
theorem at_rng {t K : Nat} (ht : t < K) (g : Nat → D) : subD M (.lst ((List.range K).map g)) (.int (t : Nat)) = some (g t) := by
  show L2.atI _ _ = _
  rw [atI_ok (by omega) (by rw [List.length_map, List.length_range]; omega), List.getElem?_map, show ((t : Nat) : Int).toNat = t by omega, List.getElem?_range ht]
  rfl
/-- how many go past a gate between two moments -/
theorem law_passes_ok (h : RR L r xs) {c : Int} (h0 : 0 ≤ c) (h1 : c < L) {T : Nat} (hT : T ≤ 100000) : f__law_passes [rgD L r, posD L r xs T, posD L r xs (T + 1), .int c] M = .ok (.int (hearP L r xs c T)) M := by
  show runDef (tbl T__law_passes) 8 b__law_passes _ M = _
  rw [run_eq]
  have hL := h.ring.L
  have hr := h.ring.r
  unfold b__law_passes
  simp only [List.map_cons, List.map_nil, List.length_cons, List.length_nil, List.cons_append, List.nil_append]
  rw [show List.replicate (8 - (0 + 1 + 1 + 1 + 1)) Slot.no = [Slot.no, .no, .no, .no] from rfl]
  refine fin_step (ρ' := [.v (rgD L r), .v (posD L r xs T), .v (posD L r xs (T + 1)), .v (.int c), .v (.int 0), .no, .no, .no]) (M' := M) (by simp -implicitDefEqProofs) ?_
  have ei : MI.den (tbl T__law_passes) (.zip (.var 1) (.var 2)) [.v (rgD L r), .v (posD L r xs T), .v (posD L r xs (T + 1)), .v (.int c), .v (.int 0), .no, .no, .no] M = .ok ((List.range xs.length).map fun j => D.tup [.int (xx r (ext L xs) T j), .int (xx r (ext L xs) (T + 1) j)]) M := by
    have i1 : ∀ T, items (posD L r xs T) = some ((List.range xs.length).map fun j => D.int (xx r (ext L xs) T j)) := fun _ => rfl
    simp -implicitDefEqProofs [i1, zip_rngD]
  rw [dens_cons, den_loop, ei, toS_ok_]
  generalize posD L r xs T = P1
  generalize posD L r xs (T + 1) = P2
  generalize hz : forD _ _ _ _ = Z
  obtain ⟨⟨s5, s6⟩, rfl⟩ := forD_st (τ := Slot × Slot) hz (fun i s => [.v (rgD L r), .v P1, .v P2, .v (.int c), .v (.int (sm i fun j => (xx r (ext L xs) (T + 1) j - c - 1) / L - (xx r (ext L xs) T j - c - 1) / L)), s.1, s.2, .no]) (fun _ _ => M) (.no, .no) rfl rfl (by
    rintro j x ⟨s5, s6⟩ hx
    obtain ⟨rfl, hj⟩ := range_at hx
    refine ⟨(.v (.int (xx r (ext L xs) T x)), .v (.int (xx r (ext L xs) (T + 1) x))), ?_⟩
    rw [asg_two]
    have inc := (Gm.xx_rg h.rg T).inc x
    have sc := Gm.xx_succ (r := r) (a := ext L xs) T x
    have top := Gm.xx_top (r := r) (a := ext L xs) T x
    have low := Gm.xx_up h.rg 0 x T
    rw [Gm.xx_zero, Nat.zero_add] at low
    have e0 : 0 ≤ ext L xs x ∧ ext L xs x < L := by
      rw [Gm.ext_lt hj]
      exact h.good.lo _ (Gm.getD_mem hj)
    have rT : r * (T : Int) ≤ 3 * (T : Int) := Int.mul_le_mul_of_nonneg_right hr.2 (by omega)
    generalize hA : xx r (ext L xs) T x = A at *
    generalize hB : xx r (ext L xs) (T + 1) x = B at *
    have o1 : rngOk A B = true := rngOk_far (by omega) (by omega) (by omega) (by omega)
    have er : rngI A B = ((List.range (B - A).toNat).map fun i : Nat => A + (i : Int)).map .int := by
      unfold rngI
      rw [List.map_map]
      rfl
    have ps := Gm.pass_some A h0 h1 (B - A).toNat
    rw [show A + ((B - A).toNat : Int) - c - 1 = B - c - 1 by omega] at ps
    have ec : ∀ tot s7, ME.den (tbl T__law_passes) (.compIf (.int 1) [7] (.rng2 (.var 5) (.var 6)) (.cmp .eq (.bin .mod (.var 7) (.sub (.var 0) (.int 0))) (.var 3))) [.v (rgD L r), .v P1, .v P2, .v (.int c), .v (.int tot), .v (.int A), .v (.int B), s7] M = .ok (.lst ((((List.range (B - A).toNat).map fun i : Nat => A + (i : Int)).filter fun z => decide (z % L = c)).map fun _ => D.int 1)) M := by
      intro tot s7
      have ei : MI.den (tbl T__law_passes) (.rng2 (.var 5) (.var 6)) [.v (rgD L r), .v P1, .v P2, .v (.int c), .v (.int tot), .v (.int A), .v (.int B), s7] M = .ok (((List.range (B - A).toNat).map fun i : Nat => A + (i : Int)).map .int) M := by
        rw [← er]
        simp -implicitDefEqProofs [o1]
      rw [compIf_cf, ei, bind_ok_, compD_filI (h := D.int) (p := fun z => decide (z % L = c)) (g := fun _ => D.int 1), bind_ok_]
      intro z hz
      have m1 : binD .mod (.int z) (.int L) = some (.int (z % L)) := mod_ints (by omega)
      by_cases q : z % L = c <;> simp -implicitDefEqProofs [cfF, m1, q]
    have ll := len_lst ((((List.range (B - A).toNat).map fun i : Nat => A + (i : Int)).filter fun z => decide (z % L = c)).map fun _ => D.int 1)
    rw [List.length_map, ps] at ll
    generalize (D.lst ((((List.range (B - A).toNat).map fun i : Nat => A + (i : Int)).filter fun z => decide (z % L = c)).map fun _ => D.int 1)) = W at ec ll
    refine dens_step (ρ' := [.v (rgD L r), .v P1, .v P2, .v (.int c), .v (.int (sm (x + 1) fun j => (xx r (ext L xs) (T + 1) j - c - 1) / L - (xx r (ext L xs) T j - c - 1) / L)), .v (.int A), .v (.int B), .no]) (M' := M) ?_ rfl
    have e5 : sm (x + 1) (fun j => (xx r (ext L xs) (T + 1) j - c - 1) / L - (xx r (ext L xs) T j - c - 1) / L) = sm x (fun j => (xx r (ext L xs) (T + 1) j - c - 1) / L - (xx r (ext L xs) T j - c - 1) / L) + ((B - c - 1) / L - (A - c - 1) / L) := by
      show sm x _ + ((xx r (ext L xs) (T + 1) x - c - 1) / L - (xx r (ext L xs) T x - c - 1) / L) = _
      rw [hA, hB]
    rw [e5]
    generalize sm x (fun j => (xx r (ext L xs) (T + 1) j - c - 1) / L - (xx r (ext L xs) T j - c - 1) / L) = tot
    rw [den_set, den_bin]
    simp only [den_var_, List.set_cons_succ, List.set_cons_zero, List.getElem?_cons_succ, List.getElem?_cons_zero, bind_ok_]
    rw [den_b1, ec, bind_ok_, ll]
    rfl)
  rw [List.length_range]
  have fin : sm xs.length (fun j => (xx r (ext L xs) (T + 1) j - c - 1) / L - (xx r (ext L xs) T j - c - 1) / L) = hearP L r xs c T := by
    unfold hearP passP
    rw [Gm.sm_sub, Gm.sm_sub, Gm.sm_sub]
    omega
  rw [fin]
  simp -implicitDefEqProofs
/-! ### what is refused -/
def BadC (L : Int) (d : D) : Prop := ∀ M, f_is_whole [d, .int 0, .int (L - 1)] M = .ok (.bl false) M
theorem need_cell_bad0 {d : D} (q : BadC L d) : f_need_cell [rgD L r, d] M = .exc 3 M := by
  show runDef (tbl T_need_cell) 2 b_need_cell _ M = _
  rw [run_eq]
  simp -implicitDefEqProofs [b_need_cell, q M, finD]
theorem heard_badC (h : RR L r xs) {d : D} (q : BadC L d) (t : D) : f_heard [rgD L r, row xs, d, t] M = .exc 3 M := by
  show runDef (tbl T_heard) 6 b_heard _ M = _
  rw [run_eq]
  simp -implicitDefEqProofs [b_heard, need_row_ok h.ring h.good, need_cell_bad0 q, finD]
theorem heard_by_badC (h : RR L r xs) {d : D} (q : BadC L d) (t : D) : f_heard_by [rgD L r, row xs, d, t] M = .exc 3 M := by
  show runDef (tbl T_heard_by) 4 b_heard_by _ M = _
  rw [run_eq]
  simp -implicitDefEqProofs [b_heard_by, need_row_ok h.ring h.good, need_cell_bad0 q, finD]
theorem unlike_badC (h : RR L r xs) (h2 : RR L r ys) {d : D} (q : BadC L d) : f_unlike [rgD L r, row xs, row ys, d] M = .exc 3 M := by
  show runDef (tbl T_unlike) 7 b_unlike _ M = _
  rw [run_eq]
  simp -implicitDefEqProofs [b_unlike, need_row_ok h.ring h.good, need_row_ok h.ring h2.good, need_cell_bad0 q, finD]
theorem heard_badN (h : RR L r xs) {c : Int} (h0 : 0 ≤ c) (h1 : c < L) {d : D} (q : ∀ M, f_is_whole [d, .int 0, .int 100] M = .ok (.bl false) M) : f_heard [rgD L r, row xs, .int c, d] M = .exc 2 M := by
  show runDef (tbl T_heard) 6 b_heard _ M = _
  rw [run_eq]
  simp -implicitDefEqProofs [b_heard, need_row_ok h.ring h.good, need_cell_ok h.ring h0 h1, q M, finD]
theorem heard_by_badN (h : RR L r xs) {c : Int} (h0 : 0 ≤ c) (h1 : c < L) {d : D} (q : BadT d) : f_heard_by [rgD L r, row xs, .int c, d] M = .exc 2 M := by
  show runDef (tbl T_heard_by) 4 b_heard_by _ M = _
  rw [run_eq]
  simp -implicitDefEqProofs [b_heard_by, need_row_ok h.ring h.good, need_cell_ok h.ring h0 h1, q M, finD]
end Gc
end
section
set_option autoImplicit false
set_option linter.all false
set_option maxRecDepth 100000
namespace Gc
open PySem Mi
open Gm (nextsP gapsP movedP nextP rowT Runs Backs xx ext bb wm rowOf Row sm total turnP mirP frP)
variable {M M' M2 : Mst} {L r : Int} {xs : List Int}
theorem law_turned_ok (h : Ring L r) (m : Int) : f__law_turned [rgD L r, row xs, .int m] M = .ok (row (turnP L xs m)) M := by
  have hL := h.L
  show runDef (tbl T__law_turned) 4 b__law_turned _ M = _
  rw [run_eq]
  have e : ∀ ρ, ρ = [.v (rgD L r), .v (row xs), .v (.int m), .no] → ME.den (tbl T__law_turned) (.comp (.bin .mod (.bin .add (.var 3) (.var 2)) (.sub (.var 0) (.int 0))) [3] (.seq (.var 1))) ρ M = .ok (.lst ((xs.map fun x => (x + m) % L).map .int)) M := fun ρ hρ => by
    subst hρ
    have ei : MI.den (tbl T__law_turned) (.seq (.var 1)) [.v (rgD L r), .v (row xs), .v (.int m), .no] M = .ok (xs.map .int) M := rfl
    rw [comp_el, ei, bind_ok_, compD_mapI (g := fun x => .int ((x + m) % L)), bind_ok_, List.map_map]
    · rfl
    · intro x hx
      have md : binD .mod (.int (x + m)) (.int L) = some (.int ((x + m) % L)) := mod_ints (by omega)
      simp -implicitDefEqProofs [elF, md]
  have s1 := sorted_ints (xs.map fun x => (x + m) % L)
  have s2 : b1D .tuple (.lst ((sortI (xs.map fun x => (x + m) % L)).map .int)) = some (row (turnP L xs m)) := rfl
  generalize D.lst ((xs.map fun x => (x + m) % L).map .int) = A at e s1
  generalize D.lst ((sortI (xs.map fun x => (x + m) % L)).map .int) = B at s1 s2
  generalize row (turnP L xs m) = C at s2 ⊢
  have e' := e _ rfl
  generalize row xs = X at e' ⊢
  unfold b__law_turned
  simp only [List.map_cons, List.map_nil, List.length_cons, List.length_nil, List.cons_append, List.nil_append]
  rw [show List.replicate (4 - (0 + 1 + 1 + 1)) Slot.no = [Slot.no] from rfl]
  rw [dens_cons, den_ret, den_b1, den_b1, e', bind_ok_, s1, of_some_, bind_ok_, s2]
  rfl
theorem turn_RR (h : RR L r xs) (m : Int) : RR L r (turnP L xs m) := ⟨h.ring, Gm.turn_row h.good m⟩
theorem turn_runB (h : RR L r xs) (m : Int) (t : Nat) : runB L r (turnP L xs m) t = runB L r xs t := by
  rw [Bool.eq_iff_iff, runB_iff (turn_RR h m), runB_iff h]
  exact Gm.turn_runs h.good h.r0 m t
theorem turn_backB (h : RR L r xs) (m : Int) (t : Nat) : backB L r (turnP L xs m) t = backB L r xs t := by
  rw [Bool.eq_iff_iff, backB_iff (turn_RR h m), backB_iff h]
  exact Gm.turn_backs h.good h.r0 m t
theorem turn_set (h : RR L r xs) (m : Int) {s : Nat} (hs : SetAt L r xs s) : SetAt L r (turnP L xs m) s where
  lt := by rw [Gm.turn_len]; exact hs.lt
  at_ := by rw [turn_runB h, turn_backB h]; exact hs.at_
  no := fun t ht => by rw [turn_runB h, turn_backB h]; exact hs.no t ht
/-! one behind the other -/
theorem compD_more {n : Nat} {f : D → Mst → R (Option D)} : ∀ (ks : List Int) (M : Mst), Dice n M → (∀ k ∈ ks, ∀ M, Dice n M → ∃ (v : Int) (M' : Mst), f (.int k) M = .ok (some (.int v)) M' ∧ k ≤ v ∧ Rolled n M M') → ∃ (ys : List Int) (M' : Mst), compD f (ks.map .int) M = .ok (ys.map .int) M' ∧ ys.length = ks.length ∧ (∀ j, j < ks.length → ks.getD j 0 ≤ ys.getD j 0) ∧ Rolled n M M'
  | [], M, hd, _ => ⟨[], M, rfl, rfl, (fun j hj => by cases hj), Rolled.same hd⟩
  | k :: ks, M, hd, h => by
    obtain ⟨v, M1, e1, hv, r1⟩ := h k (by simp) M hd
    obtain ⟨ys, M2, e2, hl, hy, r2⟩ := compD_more ks M1 (hd.roll r1) fun z hz => h z (by simp [hz])
    refine ⟨v :: ys, M2, ?_, by simp [hl], fun j hj => ?_, r1.trans r2⟩
    · rw [List.map_cons]
      unfold compD
      rw [e1]
      simp only [bind_ok_, e2]
      rfl
    · cases j with
      | zero => exact hv
      | succ j => simpa using hy j (by simpa using hj)
theorem inc_all {n : Nat} {F : Nat → Int} (h : ∀ j, j + 1 < n → F j < F (j + 1)) : ∀ {i j : Nat}, i < j → j < n → F i < F j := by
  intro i j hij
  obtain ⟨d, rfl⟩ : ∃ d, j = i + 1 + d := ⟨j - (i + 1), by omega⟩
  induction d with
  | zero => intro hj; exact h i hj
  | succ d ih =>
    intro hj
    have a := ih (by omega) (by omega)
    have b := h (i + 1 + d) (by omega)
    rw [show i + 1 + (d + 1) = i + 1 + d + 1 by omega]
    omega
theorem row_of_inc {n : Nat} {F : Nat → Int} (hn : 0 < n) (h : ∀ j, j + 1 < n → F j < F (j + 1)) (h0 : ∀ j, j < n → 0 ≤ F j) (h1 : F (n - 1) < L) : Row L ((List.range n).map F) := by
  refine ⟨fun e => ?_, ?_, fun x hx => ?_⟩
  · have := congrArg List.length e
    simp at this
    omega
  · refine List.pairwise_map.mpr (List.Pairwise.imp_of_mem (fun {a b} ha hb hab => ?_) (List.pairwise_lt_range (n := n)))
    exact inc_all h hab (List.mem_range.mp hb)
  · obtain ⟨j, hj, rfl⟩ := List.mem_map.mp hx
    have hj := List.mem_range.mp hj
    refine ⟨h0 j hj, ?_⟩
    by_cases q : j = n - 1
    · rw [q]; exact h1
    · have := inc_all h (show j < n - 1 by omega) (by omega)
      omega
theorem ext_mono {ys : List Int} (hl : ys.length = xs.length) (h0 : 0 < xs.length) (h : ∀ j, j < xs.length → xs.getD j 0 ≤ ys.getD j 0) (j : Nat) : ext L xs j ≤ ext L ys j := by
  unfold Gm.ext
  rw [hl]
  have := h (j % xs.length) (Nat.mod_lt _ h0)
  omega
theorem stays_ahead_ok {n : Nat} (h : RR L r xs) (hd : Dice n M) {T : Nat} (hT : (T : Int) ≤ 1000000000000000000) : ∃ M', f__law_stays_ahead [.ref n, rgD L r, row xs, posD L r xs T, .int (T : Nat)] M = .ok (.bl true) M' ∧ Rolled n M M' := by
  have hn := h.n0
  have few := h.few24
  have hL := h.ring.L
  obtain ⟨ys, M1, e1, l1, g1, r1⟩ := compD_more (n := n) (f := elF (tbl T__law_stays_ahead) (.bin .add (.var 9) (.call 33 (.cons (.var 0) (.cons (.int 2) .nil)))) [9] [.v (.ref n), .v (rgD L r), .v (row xs), .v (posD L r xs T), .v (.int (T : Nat)), .no, .no, .no, .no, .no, .no, .no, .no]) xs M hd (fun k hk M hd => by
    obtain ⟨v, M', e, v0, v1, r'⟩ := roll_ok hd (m := 2) (by omega) (by omega)
    refine ⟨k + v, M', ?_, by omega, r'⟩
    generalize row xs = X
    generalize posD L r xs T = PD
    simp -implicitDefEqProofs [elF, e])
  refine ⟨M1, ?_, r1⟩
  show runDef (tbl T__law_stays_ahead) 13 b__law_stays_ahead _ M = _
  rw [run_eq]
  unfold b__law_stays_ahead
  simp only [List.map_cons, List.map_nil, List.length_cons, List.length_nil, List.cons_append, List.nil_append]
  rw [show List.replicate (13 - (0 + 1 + 1 + 1 + 1 + 1)) Slot.no = [Slot.no, .no, .no, .no, .no, .no, .no, .no] from rfl]
  have hny : ys.length = xs.length := l1
  obtain ⟨F, hF, hFn⟩ : ∃ F : Nat → Int, (∀ j, j < xs.length → F j = ys.getD j 0) ∧ F xs.length = F 0 + L := by
    refine ⟨fun j => if j < xs.length then ys.getD j 0 else ys.getD 0 0 + L, fun j hj => if_pos hj, ?_⟩
    dsimp only
    rw [if_neg (by omega), if_pos hn]
  have ey : ys = (List.range xs.length).map F := Gm.list_range hny fun j hj => (hF j hj).symm
  have es : D.lst (ys.map .int) = spD xs.length F := by
    rw [spD_ints, ← ey]
  refine fin_step (ρ' := [.v (.ref n), .v (rgD L r), .v (row xs), .v (posD L r xs T), .v (.int (T : Nat)), .v (spD xs.length F), .no, .no, .no, .no, .no, .no, .no]) (M' := M1) ?_ ?_
  · have ei : MI.den (tbl T__law_stays_ahead) (.seq (.var 2)) [.v (.ref n), .v (rgD L r), .v (row xs), .v (posD L r xs T), .v (.int (T : Nat)), .no, .no, .no, .no, .no, .no, .no, .no] M = .ok (xs.map .int) M := rfl
    rw [den_set, comp_el, ei, bind_ok_, e1, bind_ok_, es, toS_ok_]
    rfl
  obtain ⟨x, x1, x2, x3⟩ := nexts_sp (M := M1) hn (by omega) hFn
  refine fin_step (ρ' := [.v (.ref n), .v (rgD L r), .v (row xs), .v (posD L r xs T), .v (.int (T : Nat)), .v (spD xs.length F), .v (spD xs.length fun j => F (j + 1)), .no, .no, .no, .no, .no, .no]) (M' := M1) ?_ ?_
  · generalize spD xs.length F = A at x1 x2 ⊢
    generalize (spD xs.length fun j => F (j + 1)) = B at x3 ⊢
    generalize row xs = X
    generalize posD L r xs T = PD
    simp -implicitDefEqProofs [x1, x2, x3]
  -- no two on a cell
  obtain ⟨zs, z1, z2⟩ : ∃ zs : List Int, ME.den (tbl T__law_stays_ahead) (.compIf (.int 1) [10, 11] (.zip (.var 5) (.var 6)) (.cmp .ge (.var 10) (.var 11))) [.v (.ref n), .v (rgD L r), .v (row xs), .v (posD L r xs T), .v (.int (T : Nat)), .v (spD xs.length F), .v (spD xs.length fun j => F (j + 1)), .no, .no, .no, .no, .no, .no] M1 = .ok (.lst (zs.map .int)) M1 ∧ (zs = [] ↔ ∀ j, j < xs.length → decide (F (j + 1) ≤ F j) = false) := by
    obtain ⟨zs, z1, z2⟩ := none_bad (n := xs.length) (M := M1) (f := cfF (tbl T__law_stays_ahead) (.int 1) [10, 11] (.cmp .ge (.var 10) (.var 11)) [.v (.ref n), .v (rgD L r), .v (row xs), .v (posD L r xs T), .v (.int (T : Nat)), .v (spD xs.length F), .v (spD xs.length fun j => F (j + 1)), .no, .no, .no, .no, .no, .no]) (fun j => decide (F (j + 1) ≤ F j)) (fun j => D.tup [.int (F j), .int (F (j + 1))]) (fun j hj => by
      have c : cmpD .ge (.int (F j)) (.int (F (j + 1))) = some (decide (F (j + 1) ≤ F j)) := rfl
      generalize decide (F (j + 1) ≤ F j) = b at c ⊢
      generalize F j = u at c ⊢
      generalize F (j + 1) = v at c ⊢
      generalize spD xs.length F = A
      generalize (spD xs.length fun j => F (j + 1)) = B
      generalize row xs = X
      generalize posD L r xs T = PD
      cases b <;> simp -implicitDefEqProofs [cfF, c])
    have ez : MI.den (tbl T__law_stays_ahead) (.zip (.var 5) (.var 6)) [.v (.ref n), .v (rgD L r), .v (row xs), .v (posD L r xs T), .v (.int (T : Nat)), .v (spD xs.length F), .v (spD xs.length fun j => F (j + 1)), .no, .no, .no, .no, .no, .no] M1 = .ok ((List.range xs.length).map fun j => D.tup [.int (F j), .int (F (j + 1))]) M1 := by
      rw [← zip_rngD]
      rfl
    exact ⟨zs, by rw [compIf_cf, ez, bind_ok_, z1, bind_ok_], z2⟩
  refine fin_step (ρ' := [.v (.ref n), .v (rgD L r), .v (row xs), .v (posD L r xs T), .v (.int (T : Nat)), .v (spD xs.length F), .v (spD xs.length fun j => F (j + 1)), .v (.lst (zs.map .int)), .no, .no, .no, .no, .no]) (M' := M1) ?_ ?_
  · rw [den_set, z1, toS_ok_]
    rfl
  have c1 := eq_nil zs
  have c2 : subD M1 (spD xs.length F) (.int (-1)) = some (.int (F (xs.length - 1))) := by
    obtain ⟨m, hm⟩ : ∃ m, xs.length = m + 1 := ⟨xs.length - 1, by omega⟩
    rw [hm]
    exact atM1 (fun j => D.int (F j))
  have c3 : cmpD .lt (.int (F (xs.length - 1))) (.int L) = some (decide (F (xs.length - 1) < L)) := rfl
  by_cases q1 : zs = []
  · rw [decide_eq_true q1] at c1
    by_cases q2 : F (xs.length - 1) < L
    · rw [decide_eq_true q2] at c3
      have hz := z2.mp q1
      have R2 : Row L ys := by
        rw [ey]
        refine row_of_inc hn (fun j hj => ?_) (fun j hj => ?_) q2
        · have := hz j (by omega)
          have := of_decide_eq_false this
          omega
        · rw [hF j hj]
          have a := g1 j hj
          have b := h.good.lo _ (Gm.getD_mem hj)
          omega
      have h2 : RR L r ys := ⟨h.ring, R2⟩
      have gk : f_gone [rgD L r, row ys, .int (T : Nat)] M1 = .ok (row (goneP L r ys T)) M1 := gone_ok h2 hT
      have gi : items (row (goneP L r ys T)) = some ((List.range xs.length).map fun j => D.int (xx r (ext L ys) T j - ext L ys j)) := by
        rw [items_gone, hny]
      have tp : b1D .tuple (spD xs.length F) = some (row ys) := by
        rw [← es]
        rfl
      have e8 : ME.den (tbl T__law_stays_ahead) (.comp (.bin .add (.var 9) (.var 12)) [9, 12] (.zip (.var 5) (.call 45 (.cons (.var 1) (.cons (.b1 .tuple (.var 5)) (.cons (.var 4) .nil)))))) [.v (.ref n), .v (rgD L r), .v (row xs), .v (posD L r xs T), .v (.int (T : Nat)), .v (spD xs.length F), .v (spD xs.length fun j => F (j + 1)), .v (.lst (zs.map .int)), .no, .no, .no, .no, .no] M1 = .ok (spD xs.length (xx r (ext L ys) T)) M1 := by
        have ez : MI.den (tbl T__law_stays_ahead) (.zip (.var 5) (.call 45 (.cons (.var 1) (.cons (.b1 .tuple (.var 5)) (.cons (.var 4) .nil))))) [.v (.ref n), .v (rgD L r), .v (row xs), .v (posD L r xs T), .v (.int (T : Nat)), .v (spD xs.length F), .v (spD xs.length fun j => F (j + 1)), .v (.lst (zs.map .int)), .no, .no, .no, .no, .no] M1 = .ok ((List.range xs.length).map fun j => D.tup [.int (F j), .int (xx r (ext L ys) T j - ext L ys j)]) M1 := by
          rw [← zip_rngD]
          have is := items_sp xs.length F
          generalize row (goneP L r ys T) = GG at gk gi
          generalize row ys = Y at gk tp
          generalize spD xs.length F = A at tp is ⊢
          generalize (spD xs.length fun j => F (j + 1)) = B
          generalize D.lst (zs.map .int) = Z
          generalize row xs = X
          generalize posD L r xs T = PD
          simp -implicitDefEqProofs [tp, gk, is, gi]
        rw [comp_el, ez, bind_ok_, compD_mapI (g := fun j => .int (xx r (ext L ys) T j)), bind_ok_]
        · rfl
        · intro j hj
          have hj := List.mem_range.mp hj
          have ee : ext L ys j = F j := by
            rw [Gm.ext_lt (by omega), hF j hj]
          have add : F j + (xx r (ext L ys) T j - ext L ys j) = xx r (ext L ys) T j := by omega
          have ad : binD .add (.int (F j)) (.int (xx r (ext L ys) T j - ext L ys j)) = some (.int (xx r (ext L ys) T j)) := by
            rw [add_ints, add]
          generalize F j = u at ad ⊢
          generalize (xx r (ext L ys) T j - ext L ys j) = v at ad ⊢
          generalize xx r (ext L ys) T j = w at ad ⊢
          generalize spD xs.length F = A
          generalize (spD xs.length fun j => F (j + 1)) = B
          generalize D.lst (zs.map .int) = Z
          generalize row xs = X
          generalize posD L r xs T = PD
          simp -implicitDefEqProofs [elF, -add_ints, ad]
      have e9 : ∃ us : List Int, ME.den (tbl T__law_stays_ahead) (.compIf (.int 1) [10, 11] (.zip (.var 3) (.var 8)) (.cmp .gt (.var 10) (.var 11))) [.v (.ref n), .v (rgD L r), .v (row xs), .v (posD L r xs T), .v (.int (T : Nat)), .v (spD xs.length F), .v (spD xs.length fun j => F (j + 1)), .v (.lst (zs.map .int)), .v (spD xs.length (xx r (ext L ys) T)), .no, .no, .no, .no] M1 = .ok (.lst (us.map .int)) M1 ∧ (us = [] ↔ ∀ j, j < xs.length → decide (xx r (ext L ys) T j < xx r (ext L xs) T j) = false) := by
        obtain ⟨us, z1, z2⟩ := none_bad (n := xs.length) (M := M1) (f := cfF (tbl T__law_stays_ahead) (.int 1) [10, 11] (.cmp .gt (.var 10) (.var 11)) [.v (.ref n), .v (rgD L r), .v (row xs), .v (posD L r xs T), .v (.int (T : Nat)), .v (spD xs.length F), .v (spD xs.length fun j => F (j + 1)), .v (.lst (zs.map .int)), .v (spD xs.length (xx r (ext L ys) T)), .no, .no, .no, .no]) (fun j => decide (xx r (ext L ys) T j < xx r (ext L xs) T j)) (fun j => D.tup [.int (xx r (ext L xs) T j), .int (xx r (ext L ys) T j)]) (fun j hj => by
          have c : cmpD .gt (.int (xx r (ext L xs) T j)) (.int (xx r (ext L ys) T j)) = some (decide (xx r (ext L ys) T j < xx r (ext L xs) T j)) := rfl
          generalize decide (xx r (ext L ys) T j < xx r (ext L xs) T j) = b at c ⊢
          generalize xx r (ext L xs) T j = u at c ⊢
          generalize xx r (ext L ys) T j = v at c ⊢
          generalize spD xs.length F = A
          generalize (spD xs.length fun j => F (j + 1)) = B
          generalize spD xs.length (xx r (ext L ys) T) = C
          generalize D.lst (zs.map .int) = Z
          generalize row xs = X
          generalize posD L r xs T = PD
          cases b <;> simp -implicitDefEqProofs [cfF, c])
        have ez : MI.den (tbl T__law_stays_ahead) (.zip (.var 3) (.var 8)) [.v (.ref n), .v (rgD L r), .v (row xs), .v (posD L r xs T), .v (.int (T : Nat)), .v (spD xs.length F), .v (spD xs.length fun j => F (j + 1)), .v (.lst (zs.map .int)), .v (spD xs.length (xx r (ext L ys) T)), .no, .no, .no, .no] M1 = .ok ((List.range xs.length).map fun j => D.tup [.int (xx r (ext L xs) T j), .int (xx r (ext L ys) T j)]) M1 := by
          rw [← zip_rngD]
          rfl
        exact ⟨us, by rw [compIf_cf, ez, bind_ok_, z1, bind_ok_], z2⟩
      obtain ⟨us, u1, u2⟩ := e9
      have u3 : us = [] := u2.mpr fun j hj => decide_eq_false (by
        have := Gm.xx_mono (r := r) (ext_mono (L := L) hny hn g1) T j
        omega)
      have c4 := ne_nil us
      rw [decide_eq_true u3] at c4
      refine fin_step (ρ' := [.v (.ref n), .v (rgD L r), .v (row xs), .v (posD L r xs T), .v (.int (T : Nat)), .v (spD xs.length F), .v (spD xs.length fun j => F (j + 1)), .v (.lst (zs.map .int)), .v (spD xs.length (xx r (ext L ys) T)), .no, .no, .no, .no]) (M' := M1) ?_ rfl
      generalize spD xs.length F = A at e8 u1 c2 ⊢
      generalize (spD xs.length fun j => F (j + 1)) = B at e8 u1 ⊢
      generalize spD xs.length (xx r (ext L ys) T) = C at e8 u1 ⊢
      generalize D.lst (zs.map .int) = Z at e8 u1 c1 ⊢
      generalize D.lst (us.map .int) = U at u1 c4
      generalize row xs = X at e8 u1 ⊢
      generalize posD L r xs T = PD at e8 u1 ⊢
      have c : ME.den (tbl T__law_stays_ahead) (.and (.cmp .eq (.var 7) (.lst .nil)) (.cmp .lt (.sub (.var 5) (.neg (.int 1))) (.sub (.var 1) (.int 0)))) [.v (.ref n), .v (rgD L r), .v X, .v PD, .v (.int (T : Nat)), .v A, .v B, .v Z, .no, .no, .no, .no, .no] M1 = .ok (.bl true) M1 := by
        simp -implicitDefEqProofs [c1, c2, c3]
      rw [den_cond, c, toS_ok_, condS_bl, if_pos rfl]
      refine dens_step (ρ' := [.v (.ref n), .v (rgD L r), .v X, .v PD, .v (.int (T : Nat)), .v A, .v B, .v Z, .v C, .no, .no, .no, .no]) (M' := M1) ?_ ?_
      · rw [den_set, e8, toS_ok_]
        rfl
      refine dens_step (M' := M1) ?_ rfl
      have c : ME.den (tbl T__law_stays_ahead) (.cmp .ne (.compIf (.int 1) [10, 11] (.zip (.var 3) (.var 8)) (.cmp .gt (.var 10) (.var 11))) (.lst .nil)) [.v (.ref n), .v (rgD L r), .v X, .v PD, .v (.int (T : Nat)), .v A, .v B, .v Z, .v C, .no, .no, .no, .no] M1 = .ok (.bl false) M1 := by
        rw [den_cmp, u1, bind_ok_, den_lst, den_nil, bind_ok_, bind_ok_, c4]
        rfl
      rw [den_cond, c, toS_ok_, condS_bl, if_neg (by decide)]
      rfl
    · rw [decide_eq_false q2] at c3
      generalize spD xs.length F = A at c2 ⊢
      generalize (spD xs.length fun j => F (j + 1)) = B
      generalize D.lst (zs.map .int) = Z at c1 ⊢
      generalize row xs = X
      generalize posD L r xs T = PD
      simp -implicitDefEqProofs [c1, c2, c3, finD]
  · rw [decide_eq_false q1] at c1
    generalize spD xs.length F = A at c2 ⊢
    generalize (spD xs.length fun j => F (j + 1)) = B
    generalize D.lst (zs.map .int) = Z at c1 ⊢
    generalize row xs = X
    generalize posD L r xs T = PD
    simp -implicitDefEqProofs [c1, finD]
end Gc
end
section
set_option autoImplicit false
set_option linter.all false
set_option maxRecDepth 100000
set_option maxHeartbeats 0
namespace Gc
open PySem Mi
def b_law : List MS := [.loop [1] (.seq (.call 37 (.cons (.var 0) (.cons (.int 3) .nil)))) [.set 2 (.call 38 (.cons (.var 1) (.cons (.int 20) .nil))), .asT [8, 9, 10] (.tup (.cons (.call 39 (.cons (.var 1) (.cons (.var 2) .nil))) (.cons (.call 33 (.cons (.var 1) (.cons (.sub (.var 2) (.int 0)) .nil))) (.cons (.call 33 (.cons (.var 1) (.cons (.int 15) .nil))) .nil)))), .set 3 (.call 47 (.cons (.var 2) (.cons (.var 8) (.cons (.var 10) .nil)))), .cond (.cmp .ne (.call 47 (.cons (.var 2) (.cons (.call 97 (.cons (.var 2) (.cons (.var 8) (.cons (.var 9) .nil)))) (.cons (.var 10) .nil)))) (.call 97 (.cons (.var 2) (.cons (.var 3) (.cons (.var 9) .nil))))) [.ret (.bl false)] [], .cond (.cmp .ne (.call 59 (.cons (.var 2) (.cons (.call 97 (.cons (.var 2) (.cons (.var 8) (.cons (.var 9) .nil)))) .nil))) (.call 59 (.cons (.var 2) (.cons (.var 8) .nil)))) [.ret (.bl false)] [], .cond (.cmp .ne (.call 74 (.cons (.var 2) (.cons (.call 97 (.cons (.var 2) (.cons (.var 8) (.cons (.var 9) .nil)))) .nil))) (.call 74 (.cons (.var 2) (.cons (.var 8) .nil)))) [.ret (.bl false)] [], .set 4 (.tup (.cons (.sub (.var 2) (.int 0)) (.cons (.int 1) .nil))), .set 5 (.compIf (.bin .sub (.bin .sub (.sub (.var 2) (.int 0)) (.int 1)) (.var 13)) [13] (.rng (.sub (.var 2) (.int 0))) (.cmp .nin (.var 13) (.var 8))), .cond (.cmp .ne (.var 5) (.lst .nil)) [.set 11 (.b1 .tuple (.b1 .sorted (.var 5))), .set 12 (.compIf (.bin .sub (.bin .sub (.sub (.var 2) (.int 0)) (.int 1)) (.var 13)) [13] (.rng (.sub (.var 2) (.int 0))) (.cmp .nin (.var 13) (.call 47 (.cons (.var 4) (.cons (.var 8) (.cons (.var 10) .nil)))))), .cond (.cmp .ne (.call 47 (.cons (.var 4) (.cons (.var 11) (.cons (.var 10) .nil)))) (.b1 .tuple (.b1 .sorted (.var 12)))) [.ret (.bl false)] []] [], .set 6 (.comp (.bin .add (.var 13) (.var 14)) [13, 14] (.zip (.var 8) (.call 45 (.cons (.var 2) (.cons (.var 8) (.cons (.var 10) .nil)))))), .cond (.cmp .ne (.compIf (.int 1) [15, 16] (.zip (.var 6) (.bin .add (.slc (.var 6) (.some (.int 1)) .no) (.lst (.cons (.bin .add (.sub (.var 6) (.int 0)) (.sub (.var 2) (.int 0))) .nil)))) (.cmp .ge (.var 15) (.var 16))) (.lst .nil)) [.ret (.bl false)] [], .cond (.not (.call 98 (.cons (.var 1) (.cons (.var 2) (.cons (.var 8) (.cons (.var 6) (.cons (.var 10) .nil))))))) [.ret (.bl false)] [], .set 7 (.tup (.cons (.sub (.var 2) (.int 0)) (.cons (.b2 .max (.int 1) (.bin .sub (.sub (.var 2) (.int 1)) (.int 1))) .nil))), .cond (.cmp .ne (.compIf (.int 1) [15, 16] (.zip (.call 45 (.cons (.var 7) (.cons (.var 8) (.cons (.var 10) .nil)))) (.call 45 (.cons (.var 2) (.cons (.var 8) (.cons (.var 10) .nil))))) (.cmp .gt (.var 15) (.var 16))) (.lst .nil)) [.ret (.bl false)] [], .cond (.cmp .lt (.call 48 (.cons (.var 2) (.cons (.var 8) (.cons (.bin .add (.var 10) (.int 1)) .nil)))) (.call 48 (.cons (.var 2) (.cons (.var 8) (.cons (.int 0) .nil))))) [.ret (.bl false)] [], .cond (.cmp .gt (.b1 .sum (.call 48 (.cons (.var 2) (.cons (.var 8) (.cons (.var 10) .nil))))) (.bin .mul (.bin .mul (.sub (.var 2) (.int 1)) (.var 10)) (.b1 .len (.var 8)))) [.ret (.bl false)] []], .ret (.bl true)]
def T_law : List KF := [e__law_rounds, e__law_any_ring, e__law_roll, e__law_any_row, e_after, e__law_turned, e_settles, e_how_many, e_gone, e__law_stays_ahead, e_held]
@[simp] theorem t_law__law_rounds : tbl T_law 37 = f__law_rounds := rfl
@[simp] theorem t_law__law_any_ring : tbl T_law 38 = f__law_any_ring := rfl
@[simp] theorem t_law__law_roll : tbl T_law 33 = f__law_roll := rfl
@[simp] theorem t_law__law_any_row : tbl T_law 39 = f__law_any_row := rfl
@[simp] theorem t_law_after : tbl T_law 47 = f_after := rfl
@[simp] theorem t_law__law_turned : tbl T_law 97 = f__law_turned := rfl
@[simp] theorem t_law_settles : tbl T_law 59 = f_settles := rfl
@[simp] theorem t_law_how_many : tbl T_law 74 = f_how_many := rfl
@[simp] theorem t_law_gone : tbl T_law 45 = f_gone := rfl
@[simp] theorem t_law__law_stays_ahead : tbl T_law 98 = f__law_stays_ahead := rfl
@[simp] theorem t_law_held : tbl T_law 48 = f_held := rfl
def f_law : List D → Mst → R D := runDef (tbl T_law) 17 b_law
def e_law : KF := ⟨"law", 92, 1, f_law⟩
end Gc
end
section
set_option autoImplicit false
set_option linter.all false
set_option maxRecDepth 100000
namespace Gc
open PySem Mi
open Gm (nextsP gapsP movedP nextP rowT Runs Backs xx ext bb wm rowOf Row sm total turnP mirP frP)
variable {M M' M2 : Mst} {L r : Int} {xs : List Int}
def bodyL : List MS := match b_law with
  | .loop _ _ b :: _ => b
  | _ => []
theorem lex_not : ∀ {as bs : List Int}, (∀ a ∈ as, 0 ≤ a) → (∀ b ∈ bs, b = 0) → as.length = bs.length → HT.lexLt as bs = false
  | [], [], _, _, _ => by simp [HT.lexLt]
  | [], _ :: _, _, _, h => by cases h
  | _ :: _, [], _, _, h => by cases h
  | a :: as, b :: bs, ha, hb, hl => by
    have h1 := ha a (by simp)
    have h2 := hb b (by simp)
    have ih := lex_not (fun x hx => ha x (by simp [hx])) (fun x hx => hb x (by simp [hx])) (by simpa using hl : as.length = bs.length)
    unfold HT.lexLt
    subst h2
    by_cases q : a = 0
    · subst q
      simp [ih]
    · simp [q, show ¬ a < 0 by omega]
theorem xx_cap {a : Nat → Int} : ∀ t j, xx r a t j ≤ a j + r * (t : Int)
  | 0, j => by rw [Gm.xx_zero]; simp
  | t + 1, j => by
    rw [Gm.xx_succ]
    have := xx_cap (a := a) t j
    have e : r * ((t + 1 : Nat) : Int) = r * (t : Int) + r := by rw [Int.natCast_add, Int.mul_add]; simp
    omega
/-- the gaps' cells, back to front -/
theorem free_comp {Φ : Fs} {ρ : En} {e : ME} {zs : List Int} (hL : 4 ≤ L ∧ L ≤ 24) (h2 : ρ[2]? = some (.v (rgD L r))) (he : ∀ c : Int, e.den Φ ((wipE ρ [13]).set 13 (.v (.int c))) M = .ok (row zs) M) (hρ : ∃ a b c d e f g h i j k l m s, ρ = [a, b, c, d, e, f, g, h, i, j, k, l, m, s] ++ (ρ.drop 14)) :
    ME.den Φ (.compIf (.bin .sub (.bin .sub (.sub (.var 2) (.int 0)) (.int 1)) (.var 13)) [13] (.rng (.sub (.var 2) (.int 0))) (.cmp .nin (.var 13) e)) ρ M = .ok (.lst (((frP L zs).map fun c => L - 1 - c).map .int)) M := by
  have e3r : rngOk 0 L = true := rngOk_0 (by omega) (by omega)
  have ei : MI.den Φ (.rng (.sub (.var 2) (.int 0))) ρ M = .ok (((List.range L.toNat).map fun i : Nat => (i : Int)).map .int) M := by
    rw [← rng_ints]
    simp -implicitDefEqProofs [h2, e3r]
  obtain ⟨a, b, c, d, f, g, h, i, j, k, l, m, n, s, hρ⟩ := hρ
  generalize ρ.drop 14 = tail at hρ
  subst hρ
  have h2' : c = .v (rgD L r) := by simpa using h2
  subst h2'
  rw [compIf_cf, ei, bind_ok_, compD_filI (h := D.int) (p := fun c => !decide (c ∈ zs)) (g := fun c => .int (L - 1 - c)), bind_ok_]
  · rw [List.map_map]
    rfl
  · intro c hc
    have he := he c
    have nz := nin_row (xs := zs) c
    generalize row zs = Z at he nz
    simp only [wip_cons, wip_nil, List.cons_append, List.set_cons_succ, List.set_cons_zero, List.nil_append] at he
    by_cases q : c ∈ zs
    · rw [decide_eq_true q] at nz
      simp -implicitDefEqProofs [cfF, he, nz, q]
    · rw [decide_eq_false q] at nz
      simp -implicitDefEqProofs [cfF, he, nz, q]
theorem k14_body {n : Nat} {ns : List Int} (hd : Dice n M) (s2 s3 s4 s5 s6 s7 s8 s9 s10 s11 s12 s13 s14 s15 s16 : Slot) : ∃ (t2 t3 t4 t5 t6 t7 t8 t9 t10 t11 t12 t13 t14 t15 t16 : Slot) (M' : Mst), MS.dens (tbl T_law) bodyL [.v (scD ns), .v (.ref n), s2, s3, s4, s5, s6, s7, s8, s9, s10, s11, s12, s13, s14, s15, s16] M = .nx [.v (scD ns), .v (.ref n), t2, t3, t4, t5, t6, t7, t8, t9, t10, t11, t12, t13, t14, t15, t16] M' ∧ Rolled n M M' := by
  obtain ⟨L, r, M1, e1, R1, hL16, r1⟩ := any_ring_ok hd (hi := 20) (by omega) (by omega)
  obtain ⟨xs, M2, e2, R2, r2⟩ := any_row_ok (hd.roll r1) R1
  have hd2 := (hd.roll r1).roll r2
  have h : RR L r xs := ⟨R1, R2⟩
  have hL := R1.L
  have hr := R1.r
  have hn := h.n0
  have hl := h.len
  have few := h.few24
  obtain ⟨m, M3, e3, m0, m1, r3⟩ := roll_ok hd2 (m := L) (by omega) (by omega)
  obtain ⟨v15, M4, e4, v0, v1, r4⟩ := roll_ok (hd2.roll r3) (m := 15) (by omega) (by omega)
  obtain ⟨T, rfl⟩ : ∃ T : Nat, v15 = (T : Int) := ⟨v15.toNat, by omega⟩
  have hT : (T : Int) ≤ 1000000000000000000 := by omega
  have hd4 := (hd2.roll r3).roll r4
  obtain ⟨M5, e98, r5⟩ := stays_ahead_ok h hd4 hT
  have nerow : ∀ zs : List Int, cmpD .ne (row zs) (row zs) = some false := fun zs => by
    simp -implicitDefEqProofs [ne_of]
  -- turned round
  have h2 := turn_RR h m
  have af : f_after [rgD L r, row xs, .int (T : Nat)] M4 = .ok (row (rowT L r xs T)) M4 := after_ok h hT
  have tu : f__law_turned [rgD L r, row xs, .int m] M4 = .ok (row (turnP L xs m)) M4 := law_turned_ok R1 m
  have af2 : f_after [rgD L r, row (turnP L xs m), .int (T : Nat)] M4 = .ok (row (turnP L (rowT L r xs T) m)) M4 := by
    rw [after_ok h2 hT, Gm.turn_rowT h.good h.r0]
  have tu2 : f__law_turned [rgD L r, row (rowT L r xs T), .int m] M4 = .ok (row (turnP L (rowT L r xs T) m)) M4 := law_turned_ok R1 m
  obtain ⟨s, hs⟩ := h.set
  have wd : wordP L r (turnP L xs m) s = wordP L r xs s := by
    unfold wordP
    rw [turn_runB h]
  have se : f_settles [rgD L r, row xs] M4 = .ok (.tup [.int (s : Nat), .str (wordP L r xs s)]) M4 := settles_ok h hs
  have se2 : f_settles [rgD L r, row (turnP L xs m)] M4 = .ok (.tup [.int (s : Nat), .str (wordP L r xs s)]) M4 := by
    rw [settles_ok h2 (turn_set h m hs), wd]
  have ses : cmpD .ne (.tup [.int (s : Nat), .str (wordP L r xs s)]) (.tup [.int (s : Nat), .str (wordP L r xs s)]) = some false := by
    rw [ne_int_str _ _ (okd_word _ _) (okd_word _ _)]
    simp
  have hm : f_how_many [rgD L r, row xs] M4 = .ok (.int (total r (gapsP L xs))) M4 := how_many_ok h
  have hm2 : f_how_many [rgD L r, row (turnP L xs m)] M4 = .ok (.int (total r (gapsP L xs))) M4 := by
    rw [how_many_ok h2, Gm.turn_total h.good h.r0]
  have hms : cmpD .ne (.int (total r (gapsP L xs))) (.int (total r (gapsP L xs))) = some false := by
    rw [ne_of rfl rfl, eqb_int]
    simp
  -- carts and gaps exchanged
  have R1' : Ring L 1 := ⟨hL, by omega⟩
  have h1 : RR L 1 xs := ⟨R1', R2⟩
  have afs : f_after [rgD L 1, row xs, .int (T : Nat)] M4 = .ok (row (rowT L 1 xs T)) M4 := after_ok h1 hT
  have ex : ∀ s6 s7 s11 s12 s13 s14 s15 s16, ∃ u11 u12, MS.den (tbl T_law) (.cond (.cmp .ne (.var 5) (.lst .nil)) [.set 11 (.b1 .tuple (.b1 .sorted (.var 5))), .set 12 (.compIf (.bin .sub (.bin .sub (.sub (.var 2) (.int 0)) (.int 1)) (.var 13)) [13] (.rng (.sub (.var 2) (.int 0))) (.cmp .nin (.var 13) (.call 47 (.cons (.var 4) (.cons (.var 8) (.cons (.var 10) .nil)))))), .cond (.cmp .ne (.call 47 (.cons (.var 4) (.cons (.var 11) (.cons (.var 10) .nil)))) (.b1 .tuple (.b1 .sorted (.var 12)))) [.ret (.bl false)] []] []) [.v (scD ns), .v (.ref n), .v (rgD L r), .v (row (rowT L r xs T)), .v (rgD L 1), .v (.lst (((frP L xs).map fun c => L - 1 - c).map .int)), s6, s7, .v (row xs), .v (.int m), .v (.int (T : Nat)), s11, s12, s13, s14, s15, s16] M4 = .nx [.v (scD ns), .v (.ref n), .v (rgD L r), .v (row (rowT L r xs T)), .v (rgD L 1), .v (.lst (((frP L xs).map fun c => L - 1 - c).map .int)), s6, s7, .v (row xs), .v (.int m), .v (.int (T : Nat)), u11, u12, s13, s14, s15, s16] M4 := by
    intro s6 s7 s11 s12 s13 s14 s15 s16
    have c0 := ne_nil ((frP L xs).map fun c => L - 1 - c)
    by_cases q : frP L xs = []
    · refine ⟨s11, s12, ?_⟩
      have : ((frP L xs).map fun c => L - 1 - c) = [] := by rw [q]; rfl
      rw [decide_eq_true this] at c0
      generalize D.lst (((frP L xs).map fun c => L - 1 - c).map .int) = E at c0 ⊢
      generalize row (rowT L r xs T) = B
      generalize row xs = X
      simp -implicitDefEqProofs [c0]
    · have : ¬ ((frP L xs).map fun c => L - 1 - c) = [] := fun e => q (List.map_eq_nil_iff.mp e)
      rw [decide_eq_false this] at c0
      have h3 : RR L 1 (mirP L xs) := ⟨R1', Gm.mir_row q⟩
      have am : f_after [rgD L 1, row (mirP L xs), .int (T : Nat)] M4 = .ok (row (mirP L (rowT L 1 xs T))) M4 := by
        rw [after_ok h3 hT, Gm.mir_rowT h.good q (by omega)]
      have so := sorted_ints ((frP L xs).map fun c => L - 1 - c)
      have tp : b1D .tuple (.lst ((sortI ((frP L xs).map fun c => L - 1 - c)).map .int)) = some (row (mirP L xs)) := rfl
      have so2 := sorted_ints ((frP L (rowT L 1 xs T)).map fun c => L - 1 - c)
      have tp2 : b1D .tuple (.lst ((sortI ((frP L (rowT L 1 xs T)).map fun c => L - 1 - c)).map .int)) = some (row (mirP L (rowT L 1 xs T))) := rfl
      have nn := nerow (mirP L (rowT L 1 xs T))
      have e12 : ∀ s11, ME.den (tbl T_law) (.compIf (.bin .sub (.bin .sub (.sub (.var 2) (.int 0)) (.int 1)) (.var 13)) [13] (.rng (.sub (.var 2) (.int 0))) (.cmp .nin (.var 13) (.call 47 (.cons (.var 4) (.cons (.var 8) (.cons (.var 10) .nil)))))) [.v (scD ns), .v (.ref n), .v (rgD L r), .v (row (rowT L r xs T)), .v (rgD L 1), .v (.lst (((frP L xs).map fun c => L - 1 - c).map .int)), s6, s7, .v (row xs), .v (.int m), .v (.int (T : Nat)), s11, s12, s13, s14, s15, s16] M4 = .ok (.lst (((frP L (rowT L 1 xs T)).map fun c => L - 1 - c).map .int)) M4 := fun s11 => by
        refine free_comp hL rfl (fun c => ?_) ⟨_, _, _, _, _, _, _, _, _, _, _, _, _, _, rfl⟩
        generalize row (rowT L 1 xs T) = C at afs ⊢
        generalize row (rowT L r xs T) = B
        generalize D.lst (((frP L xs).map fun c => L - 1 - c).map .int) = E
        generalize row xs = X at afs ⊢
        generalize rgD L 1 = S1 at afs ⊢
        simp -implicitDefEqProofs [afs]
      refine ⟨.v (row (mirP L xs)), .v (.lst (((frP L (rowT L 1 xs T)).map fun c => L - 1 - c).map .int)), ?_⟩
      generalize D.lst ((sortI ((frP L xs).map fun c => L - 1 - c)).map .int) = E1 at so tp
      generalize D.lst ((sortI ((frP L (rowT L 1 xs T)).map fun c => L - 1 - c)).map .int) = E3 at so2 tp2
      generalize D.lst (((frP L xs).map fun c => L - 1 - c).map .int) = E at c0 so e12 ⊢
      generalize D.lst (((frP L (rowT L 1 xs T)).map fun c => L - 1 - c).map .int) = E2 at so2 e12 ⊢
      generalize row (mirP L (rowT L 1 xs T)) = F1 at am tp2 nn
      generalize row (mirP L xs) = F0 at am tp ⊢
      generalize row (rowT L r xs T) = B at e12 ⊢
      generalize row xs = X at e12 ⊢
      generalize rgD L 1 = S1 at e12 am ⊢
      have c : ME.den (tbl T_law) (.cmp .ne (.var 5) (.lst .nil)) [.v (scD ns), .v (.ref n), .v (rgD L r), .v B, .v S1, .v E, s6, s7, .v X, .v (.int m), .v (.int (T : Nat)), s11, s12, s13, s14, s15, s16] M4 = .ok (.bl true) M4 := by
        simp -implicitDefEqProofs [c0]
      rw [den_cond, c, toS_ok_, condS_bl, if_pos rfl]
      refine dens_step (ρ' := [.v (scD ns), .v (.ref n), .v (rgD L r), .v B, .v S1, .v E, s6, s7, .v X, .v (.int m), .v (.int (T : Nat)), .v F0, s12, s13, s14, s15, s16]) (M' := M4) ?_ ?_
      · simp -implicitDefEqProofs [so, tp]
      refine dens_step (ρ' := [.v (scD ns), .v (.ref n), .v (rgD L r), .v B, .v S1, .v E, s6, s7, .v X, .v (.int m), .v (.int (T : Nat)), .v F0, .v E2, s13, s14, s15, s16]) (M' := M4) ?_ ?_
      · rw [den_set, e12, toS_ok_]
        rfl
      refine dens_step (M' := M4) ?_ rfl
      simp -implicitDefEqProofs [so2, tp2, am, nn]
  -- no two on a cell
  have gk : f_gone [rgD L r, row xs, .int (T : Nat)] M4 = .ok (row (goneP L r xs T)) M4 := gone_ok h hT
  have gk5 : f_gone [rgD L r, row xs, .int (T : Nat)] M5 = .ok (row (goneP L r xs T)) M5 := gone_ok h hT
  have gi := items_gone (L := L) (r := r) (xs := xs) T
  have xi := items_rowR L xs
  have e6 : ∀ s5 s6 s7 s11 s12 s13 s14 s15 s16, ME.den (tbl T_law) (.comp (.bin .add (.var 13) (.var 14)) [13, 14] (.zip (.var 8) (.call 45 (.cons (.var 2) (.cons (.var 8) (.cons (.var 10) .nil)))))) [.v (scD ns), .v (.ref n), .v (rgD L r), .v (row (rowT L r xs T)), .v (rgD L 1), s5, s6, s7, .v (row xs), .v (.int m), .v (.int (T : Nat)), s11, s12, s13, s14, s15, s16] M4 = .ok (posD L r xs T) M4 := by
    intro s5 s6 s7 s11 s12 s13 s14 s15 s16
    have ez : MI.den (tbl T_law) (.zip (.var 8) (.call 45 (.cons (.var 2) (.cons (.var 8) (.cons (.var 10) .nil))))) [.v (scD ns), .v (.ref n), .v (rgD L r), .v (row (rowT L r xs T)), .v (rgD L 1), s5, s6, s7, .v (row xs), .v (.int m), .v (.int (T : Nat)), s11, s12, s13, s14, s15, s16] M4 = .ok ((List.range xs.length).map fun j => D.tup [.int (ext L xs j), .int (xx r (ext L xs) T j - ext L xs j)]) M4 := by
      rw [← zip_rngD]
      generalize row (goneP L r xs T) = G at gk gi
      generalize row (rowT L r xs T) = B
      generalize row xs = X at gk xi ⊢
      simp -implicitDefEqProofs [gk, gi, xi]
    rw [comp_el, ez, bind_ok_, compD_mapI (g := fun j => .int (xx r (ext L xs) T j)), bind_ok_]
    · rfl
    · intro j hj
      have ad : binD .add (.int (ext L xs j)) (.int (xx r (ext L xs) T j - ext L xs j)) = some (.int (xx r (ext L xs) T j)) := by
        rw [add_ints, show ext L xs j + (xx r (ext L xs) T j - ext L xs j) = xx r (ext L xs) T j by omega]
      generalize (xx r (ext L xs) T j - ext L xs j) = v at ad ⊢
      generalize ext L xs j = u at ad ⊢
      generalize xx r (ext L xs) T j = w at ad ⊢
      generalize row (rowT L r xs T) = B
      generalize row xs = X
      simp -implicitDefEqProofs [elF, -add_ints, ad]
  have X := Gm.xx_rg h.rg T
  obtain ⟨x, x1, x2, x3⟩ := pos_bits (M := M4) h T
  have e7 : ∀ s5 s7 s11 s12 s13 s14 s15 s16, ME.den (tbl T_law) (.compIf (.int 1) [15, 16] (.zip (.var 6) (.bin .add (.slc (.var 6) (.some (.int 1)) .no) (.lst (.cons (.bin .add (.sub (.var 6) (.int 0)) (.sub (.var 2) (.int 0))) .nil)))) (.cmp .ge (.var 15) (.var 16))) [.v (scD ns), .v (.ref n), .v (rgD L r), .v (row (rowT L r xs T)), .v (rgD L 1), s5, .v (posD L r xs T), s7, .v (row xs), .v (.int m), .v (.int (T : Nat)), s11, s12, s13, s14, s15, s16] M4 = .ok (.lst []) M4 := by
    intro s5 s7 s11 s12 s13 s14 s15 s16
    obtain ⟨us, u1, u2⟩ := none_bad (n := xs.length) (M := M4) (f := cfF (tbl T_law) (.int 1) [15, 16] (.cmp .ge (.var 15) (.var 16)) [.v (scD ns), .v (.ref n), .v (rgD L r), .v (row (rowT L r xs T)), .v (rgD L 1), s5, .v (posD L r xs T), s7, .v (row xs), .v (.int m), .v (.int (T : Nat)), s11, s12, s13, s14, s15, s16]) (fun j => decide (xx r (ext L xs) T (j + 1) ≤ xx r (ext L xs) T j)) (fun j => D.tup [.int (xx r (ext L xs) T j), .int (xx r (ext L xs) T (j + 1))]) (fun j hj => by
      have c : cmpD .ge (.int (xx r (ext L xs) T j)) (.int (xx r (ext L xs) T (j + 1))) = some (decide (xx r (ext L xs) T (j + 1) ≤ xx r (ext L xs) T j)) := rfl
      generalize decide (xx r (ext L xs) T (j + 1) ≤ xx r (ext L xs) T j) = b at c ⊢
      generalize xx r (ext L xs) T j = u at c ⊢
      generalize xx r (ext L xs) T (j + 1) = v at c ⊢
      generalize posD L r xs T = PD
      generalize row (rowT L r xs T) = B
      generalize row xs = X
      cases b <;> simp -implicitDefEqProofs [cfF, c])
    have u3 : us = [] := u2.mpr fun j hj => decide_eq_false (by have := X.inc j; omega)
    subst u3
    have ez : MI.den (tbl T_law) (.zip (.var 6) (.bin .add (.slc (.var 6) (.some (.int 1)) .no) (.lst (.cons (.bin .add (.sub (.var 6) (.int 0)) (.sub (.var 2) (.int 0))) .nil)))) [.v (scD ns), .v (.ref n), .v (rgD L r), .v (row (rowT L r xs T)), .v (rgD L 1), s5, .v (posD L r xs T), s7, .v (row xs), .v (.int m), .v (.int (T : Nat)), s11, s12, s13, s14, s15, s16] M4 = .ok ((List.range xs.length).map fun j => D.tup [.int (xx r (ext L xs) T j), .int (xx r (ext L xs) T (j + 1))]) M4 := by
      rw [← zip_rngD]
      have i1 : items (posD L r xs T) = some ((List.range xs.length).map fun j => D.int (xx r (ext L xs) T j)) := rfl
      have i2 : items (spD xs.length fun j => xx r (ext L xs) T (j + 1)) = some ((List.range xs.length).map fun j => D.int (xx r (ext L xs) T (j + 1))) := rfl
      generalize (spD xs.length fun j => xx r (ext L xs) T (j + 1)) = NX at x3 i2
      generalize posD L r xs T = PD at x1 x2 i1 ⊢
      generalize row (rowT L r xs T) = B
      generalize row xs = X
      simp -implicitDefEqProofs [x1, x2, x3, i1, i2]
    rw [compIf_cf, ez, bind_ok_, u1, bind_ok_]
    rfl
  have nnil : cmpD .ne (.lst []) (.lst []) = some false := by decide +kernel
  -- a slower ring
  obtain ⟨r', hr', er', rr'⟩ : ∃ r' : Int, b2D .max (.int 1) (.int (r - 1)) = some (.int r') ∧ 1 ≤ r' ∧ r' ≤ r := ⟨max 1 (r - 1), max_b2 _ _, by omega, by omega⟩
  have h4 : RR L r' xs := ⟨⟨hL, by omega⟩, R2⟩
  have gs5 : f_gone [rgD L r', row xs, .int (T : Nat)] M5 = .ok (row (goneP L r' xs T)) M5 := gone_ok h4 hT
  have gi2 := items_gone (L := L) (r := r') (xs := xs) T
  have e8 : ∀ s5 s6 s11 s12 s13 s14 s15 s16, ME.den (tbl T_law) (.compIf (.int 1) [15, 16] (.zip (.call 45 (.cons (.var 7) (.cons (.var 8) (.cons (.var 10) .nil)))) (.call 45 (.cons (.var 2) (.cons (.var 8) (.cons (.var 10) .nil))))) (.cmp .gt (.var 15) (.var 16))) [.v (scD ns), .v (.ref n), .v (rgD L r), .v (row (rowT L r xs T)), .v (rgD L 1), s5, s6, .v (rgD L r'), .v (row xs), .v (.int m), .v (.int (T : Nat)), s11, s12, s13, s14, s15, s16] M5 = .ok (.lst []) M5 := by
    intro s5 s6 s11 s12 s13 s14 s15 s16
    obtain ⟨us, u1, u2⟩ := none_bad (n := xs.length) (M := M5) (f := cfF (tbl T_law) (.int 1) [15, 16] (.cmp .gt (.var 15) (.var 16)) [.v (scD ns), .v (.ref n), .v (rgD L r), .v (row (rowT L r xs T)), .v (rgD L 1), s5, s6, .v (rgD L r'), .v (row xs), .v (.int m), .v (.int (T : Nat)), s11, s12, s13, s14, s15, s16]) (fun j => decide (xx r (ext L xs) T j - ext L xs j < xx r' (ext L xs) T j - ext L xs j)) (fun j => D.tup [.int (xx r' (ext L xs) T j - ext L xs j), .int (xx r (ext L xs) T j - ext L xs j)]) (fun j hj => by
      have c : cmpD .gt (.int (xx r' (ext L xs) T j - ext L xs j)) (.int (xx r (ext L xs) T j - ext L xs j)) = some (decide (xx r (ext L xs) T j - ext L xs j < xx r' (ext L xs) T j - ext L xs j)) := rfl
      generalize decide (xx r (ext L xs) T j - ext L xs j < xx r' (ext L xs) T j - ext L xs j) = b at c ⊢
      generalize xx r (ext L xs) T j - ext L xs j = u at c ⊢
      generalize xx r' (ext L xs) T j - ext L xs j = v at c ⊢
      generalize row (rowT L r xs T) = B
      generalize row xs = X
      cases b <;> simp -implicitDefEqProofs [cfF, c])
    have u3 : us = [] := u2.mpr fun j hj => decide_eq_false (by
      have := Gm.xx_reach (a := ext L xs) rr' T j
      omega)
    subst u3
    have ez : MI.den (tbl T_law) (.zip (.call 45 (.cons (.var 7) (.cons (.var 8) (.cons (.var 10) .nil)))) (.call 45 (.cons (.var 2) (.cons (.var 8) (.cons (.var 10) .nil))))) [.v (scD ns), .v (.ref n), .v (rgD L r), .v (row (rowT L r xs T)), .v (rgD L 1), s5, s6, .v (rgD L r'), .v (row xs), .v (.int m), .v (.int (T : Nat)), s11, s12, s13, s14, s15, s16] M5 = .ok ((List.range xs.length).map fun j => D.tup [.int (xx r' (ext L xs) T j - ext L xs j), .int (xx r (ext L xs) T j - ext L xs j)]) M5 := by
      rw [← zip_rngD]
      generalize row (goneP L r xs T) = G at gk5 gi
      generalize row (goneP L r' xs T) = G2 at gs5 gi2
      generalize row (rowT L r xs T) = B
      generalize row xs = X at gk5 gs5 ⊢
      simp -implicitDefEqProofs [gk5, gs5, gi, gi2]
    rw [compIf_cf, ez, bind_ok_, u1, bind_ok_]
    rfl
  -- held
  have hz : f_held [rgD L r, row xs, .int 0] M5 = .ok (row ((goneP L r xs 0).map fun g => r * ((0 : Nat) : Int) - g)) M5 := held_ok h (T := 0) (by omega)
  have h5 : f_held [rgD L r, row xs, .int ((T : Int) + 1)] M5 = .ok (row ((goneP L r xs (T + 1)).map fun g => r * ((T + 1 : Nat) : Int) - g)) M5 := held_ok h (T := T + 1) (by omega)
  have h6 : f_held [rgD L r, row xs, .int (T : Nat)] M5 = .ok (row ((goneP L r xs T).map fun g => r * (T : Int) - g)) M5 := held_ok h hT
  have lt0 : cmpD .lt (row ((goneP L r xs (T + 1)).map fun g => r * ((T + 1 : Nat) : Int) - g)) (row ((goneP L r xs 0).map fun g => r * ((0 : Nat) : Int) - g)) = some false := by
    show ((ints? (((goneP L r xs (T + 1)).map fun g => r * ((T + 1 : Nat) : Int) - g).map D.int)).bind fun ns => (ints? (((goneP L r xs 0).map fun g => r * ((0 : Nat) : Int) - g).map D.int)).map fun ms => HT.lexLt ns ms) = _
    rw [ints_map, ints_map]
    show some (HT.lexLt _ _) = _
    rw [lex_not]
    · intro a ha
      obtain ⟨g, hg, rfl⟩ := List.mem_map.mp ha
      unfold goneP at hg
      obtain ⟨j, hj, rfl⟩ := List.mem_map.mp hg
      have := xx_cap (r := r) (a := ext L xs) (T + 1) j
      omega
    · intro a ha
      obtain ⟨g, hg, rfl⟩ := List.mem_map.mp ha
      unfold goneP at hg
      obtain ⟨j, hj, rfl⟩ := List.mem_map.mp hg
      rw [Gm.xx_zero]
      simp
    · simp [goneP]
  have su := sum_row ((goneP L r xs T).map fun g => r * (T : Int) - g)
  have le : ((goneP L r xs T).map fun g => r * (T : Int) - g).sum ≤ r * (T : Int) * (xs.length : Int) := by
    unfold goneP
    rw [List.map_map, Gm.sum_range]
    refine Int.le_trans (Gm.sm_le (g := fun _ => r * (T : Int)) fun j hj => ?_) (Int.le_of_eq (Gm.sm_const _ _))
    have := Gm.xx_up h.rg 0 j T
    rw [Gm.xx_zero, Nat.zero_add] at this
    show r * (T : Int) - (xx r (ext L xs) T j - ext L xs j) ≤ r * (T : Int)
    omega
  have mu1 : binD .mul (.int r) (.int (T : Nat)) = some (.int (r * (T : Int))) := mul_small (by omega) (by omega)
  have mu2 : binD .mul (.int (r * (T : Int))) (.int (xs.length : Nat)) = some (.int (r * (T : Int) * (xs.length : Int))) := mul_small' (by omega) (by omega)
  have gt0 : cmpD .gt (.int ((goneP L r xs T).map fun g => r * (T : Int) - g).sum) (.int (r * (T : Int) * (xs.length : Int))) = some false := by
    show some (decide _) = _
    rw [decide_eq_false (by omega)]
  obtain ⟨u11, u12, e9⟩ := ex s6 s7 s11 s12 s13 s14 s15 s16
  simp only [bodyL, b_law]
  refine ⟨.v (rgD L r), .v (row (rowT L r xs T)), .v (rgD L 1), .v (.lst (((frP L xs).map fun c => L - 1 - c).map .int)), .v (posD L r xs T), .v (rgD L r'), .v (row xs), .v (.int m), .v (.int (T : Nat)), u11, u12, s13, s14, s15, s16, M5, ?_, (((r1.trans r2).trans r3).trans r4).trans r5⟩
  apply dens_step
  · simp -implicitDefEqProofs [e1]
    exact ⟨rfl, rfl⟩
  refine dens_step (ρ' := [.v (scD ns), .v (.ref n), .v (rgD L r), s3, s4, s5, s6, s7, .v (row xs), .v (.int m), .v (.int (T : Nat)), s11, s12, s13, s14, s15, s16]) (M' := M4) ?_ ?_
  · generalize row xs = X at e2 ⊢
    simp -implicitDefEqProofs [e2, e3, e4]
  refine dens_step (ρ' := [.v (scD ns), .v (.ref n), .v (rgD L r), .v (row (rowT L r xs T)), s4, s5, s6, s7, .v (row xs), .v (.int m), .v (.int (T : Nat)), s11, s12, s13, s14, s15, s16]) (M' := M4) ?_ ?_
  · generalize row (rowT L r xs T) = B at af ⊢
    generalize row xs = X at af ⊢
    simp -implicitDefEqProofs [af]
  have nt := nerow (turnP L (rowT L r xs T) m)
  refine dens_step (ρ' := [.v (scD ns), .v (.ref n), .v (rgD L r), .v (row (rowT L r xs T)), s4, s5, s6, s7, .v (row xs), .v (.int m), .v (.int (T : Nat)), s11, s12, s13, s14, s15, s16]) (M' := M4) ?_ ?_
  · generalize row (turnP L (rowT L r xs T) m) = C at af2 tu2 nt
    generalize row (turnP L xs m) = A at tu af2
    generalize row (rowT L r xs T) = B at tu2 ⊢
    generalize row xs = X at tu ⊢
    simp -implicitDefEqProofs [tu, af2, tu2, nt]
  refine dens_step (ρ' := [.v (scD ns), .v (.ref n), .v (rgD L r), .v (row (rowT L r xs T)), s4, s5, s6, s7, .v (row xs), .v (.int m), .v (.int (T : Nat)), s11, s12, s13, s14, s15, s16]) (M' := M4) ?_ ?_
  · generalize (D.tup [.int (s : Nat), .str (wordP L r xs s)]) = C at se se2 ses
    generalize row (turnP L xs m) = A at tu se2
    generalize row (rowT L r xs T) = B
    generalize row xs = X at tu se ⊢
    simp -implicitDefEqProofs [tu, se, se2, ses]
  refine dens_step (ρ' := [.v (scD ns), .v (.ref n), .v (rgD L r), .v (row (rowT L r xs T)), s4, s5, s6, s7, .v (row xs), .v (.int m), .v (.int (T : Nat)), s11, s12, s13, s14, s15, s16]) (M' := M4) ?_ ?_
  · generalize (D.int (total r (gapsP L xs))) = C at hm hm2 hms
    generalize row (turnP L xs m) = A at tu hm2
    generalize row (rowT L r xs T) = B
    generalize row xs = X at tu hm ⊢
    simp -implicitDefEqProofs [tu, hm, hm2, hms]
  refine dens_step (ρ' := [.v (scD ns), .v (.ref n), .v (rgD L r), .v (row (rowT L r xs T)), .v (rgD L 1), s5, s6, s7, .v (row xs), .v (.int m), .v (.int (T : Nat)), s11, s12, s13, s14, s15, s16]) (M' := M4) ?_ ?_
  · generalize row (rowT L r xs T) = B
    generalize row xs = X
    simp -implicitDefEqProofs
  refine dens_step (ρ' := [.v (scD ns), .v (.ref n), .v (rgD L r), .v (row (rowT L r xs T)), .v (rgD L 1), .v (.lst (((frP L xs).map fun c => L - 1 - c).map .int)), s6, s7, .v (row xs), .v (.int m), .v (.int (T : Nat)), s11, s12, s13, s14, s15, s16]) (M' := M4) ?_ ?_
  · rw [den_set, free_comp (r := r) (zs := xs) hL rfl (fun c => rfl) ⟨_, _, _, _, _, _, _, _, _, _, _, _, _, _, rfl⟩, toS_ok_]
    rfl
  refine dens_step e9 ?_
  refine dens_step (ρ' := [.v (scD ns), .v (.ref n), .v (rgD L r), .v (row (rowT L r xs T)), .v (rgD L 1), .v (.lst (((frP L xs).map fun c => L - 1 - c).map .int)), .v (posD L r xs T), s7, .v (row xs), .v (.int m), .v (.int (T : Nat)), u11, u12, s13, s14, s15, s16]) (M' := M4) ?_ ?_
  · rw [den_set, e6, toS_ok_]
    rfl
  generalize D.lst (((frP L xs).map fun c => L - 1 - c).map .int) = E
  refine dens_step (ρ' := [.v (scD ns), .v (.ref n), .v (rgD L r), .v (row (rowT L r xs T)), .v (rgD L 1), .v E, .v (posD L r xs T), s7, .v (row xs), .v (.int m), .v (.int (T : Nat)), u11, u12, s13, s14, s15, s16]) (M' := M4) ?_ ?_
  · have c : ME.den (tbl T_law) (.cmp .ne (.compIf (.int 1) [15, 16] (.zip (.var 6) (.bin .add (.slc (.var 6) (.some (.int 1)) .no) (.lst (.cons (.bin .add (.sub (.var 6) (.int 0)) (.sub (.var 2) (.int 0))) .nil)))) (.cmp .ge (.var 15) (.var 16))) (.lst .nil)) [.v (scD ns), .v (.ref n), .v (rgD L r), .v (row (rowT L r xs T)), .v (rgD L 1), .v E, .v (posD L r xs T), s7, .v (row xs), .v (.int m), .v (.int (T : Nat)), u11, u12, s13, s14, s15, s16] M4 = .ok (.bl false) M4 := by
      rw [den_cmp, e7, bind_ok_, den_lst, den_nil, bind_ok_, bind_ok_, nnil]
      rfl
    rw [den_cond, c, toS_ok_, condS_bl, if_neg (by decide)]
    rfl
  refine dens_step (ρ' := [.v (scD ns), .v (.ref n), .v (rgD L r), .v (row (rowT L r xs T)), .v (rgD L 1), .v E, .v (posD L r xs T), s7, .v (row xs), .v (.int m), .v (.int (T : Nat)), u11, u12, s13, s14, s15, s16]) (M' := M5) ?_ ?_
  · generalize posD L r xs T = PD at e98 ⊢
    generalize row (rowT L r xs T) = B
    generalize row xs = X at e98 ⊢
    simp -implicitDefEqProofs [e98]
  refine dens_step (ρ' := [.v (scD ns), .v (.ref n), .v (rgD L r), .v (row (rowT L r xs T)), .v (rgD L 1), .v E, .v (posD L r xs T), .v (rgD L r'), .v (row xs), .v (.int m), .v (.int (T : Nat)), u11, u12, s13, s14, s15, s16]) (M' := M5) ?_ ?_
  · generalize posD L r xs T = PD
    generalize row (rowT L r xs T) = B
    generalize row xs = X
    simp -implicitDefEqProofs [hr']
  refine dens_step (ρ' := [.v (scD ns), .v (.ref n), .v (rgD L r), .v (row (rowT L r xs T)), .v (rgD L 1), .v E, .v (posD L r xs T), .v (rgD L r'), .v (row xs), .v (.int m), .v (.int (T : Nat)), u11, u12, s13, s14, s15, s16]) (M' := M5) ?_ ?_
  · have c : ME.den (tbl T_law) (.cmp .ne (.compIf (.int 1) [15, 16] (.zip (.call 45 (.cons (.var 7) (.cons (.var 8) (.cons (.var 10) .nil)))) (.call 45 (.cons (.var 2) (.cons (.var 8) (.cons (.var 10) .nil))))) (.cmp .gt (.var 15) (.var 16))) (.lst .nil)) [.v (scD ns), .v (.ref n), .v (rgD L r), .v (row (rowT L r xs T)), .v (rgD L 1), .v E, .v (posD L r xs T), .v (rgD L r'), .v (row xs), .v (.int m), .v (.int (T : Nat)), u11, u12, s13, s14, s15, s16] M5 = .ok (.bl false) M5 := by
      rw [den_cmp, e8, bind_ok_, den_lst, den_nil, bind_ok_, bind_ok_, nnil]
      rfl
    rw [den_cond, c, toS_ok_, condS_bl, if_neg (by decide)]
    rfl
  generalize posD L r xs T = PD
  generalize row (rowT L r xs T) = B
  have lnx : b1D .len (row xs) = some (.int (xs.length : Nat)) := len_row xs
  generalize ((goneP L r xs T).map fun g => r * (T : Int) - g).sum = S at su gt0
  generalize row ((goneP L r xs T).map fun g => r * (T : Int) - g) = H6 at h6 su
  generalize row ((goneP L r xs (T + 1)).map fun g => r * ((T + 1 : Nat) : Int) - g) = H5 at h5 lt0
  generalize row ((goneP L r xs 0).map fun g => r * ((0 : Nat) : Int) - g) = H0 at hz lt0
  generalize row xs = X at h6 h5 hz lnx ⊢
  refine dens_step (ρ' := [.v (scD ns), .v (.ref n), .v (rgD L r), .v B, .v (rgD L 1), .v E, .v PD, .v (rgD L r'), .v X, .v (.int m), .v (.int (T : Nat)), u11, u12, s13, s14, s15, s16]) (M' := M5) ?_ ?_
  · simp -implicitDefEqProofs [h5, hz, lt0]
  refine dens_step (ρ' := [.v (scD ns), .v (.ref n), .v (rgD L r), .v B, .v (rgD L 1), .v E, .v PD, .v (rgD L r'), .v X, .v (.int m), .v (.int (T : Nat)), u11, u12, s13, s14, s15, s16]) (M' := M5) ?_ rfl
  generalize (D.int (r * (T : Int) * (xs.length : Int))) = RT at mu2 gt0
  simp -implicitDefEqProofs [h6, su, mu1, mu2, lnx, gt0]
theorem law_true (ns : List Int) (hl : ns.length ≤ 63) : ∃ M, f_law [scD ns] [] = .ok (.bl true) M := by
  refine law_run (k := 15) (hi := 3) (body := bodyL) ns hl (by decide) (by decide) rfl ?_
  intro n M ss hs hd
  match ss, hs with
  | [s2, s3, s4, s5, s6, s7, s8, s9, s10, s11, s12, s13, s14, s15, s16], _ =>
    obtain ⟨t2, t3, t4, t5, t6, t7, t8, t9, t10, t11, t12, t13, t14, t15, t16, M', e, hr⟩ := k14_body (ns := ns) hd s2 s3 s4 s5 s6 s7 s8 s9 s10 s11 s12 s13 s14 s15 s16
    exact ⟨_, M', e, rfl, hr.keep⟩
end Gc
end
set_option Elab.async false
set_option autoImplicit false
set_option linter.all false
set_option maxRecDepth 100000
set_option maxHeartbeats 0
namespace Gc
open PySem PySem.Spec PyProof.Rows L2 Mi
def top (i : Nat) : Stmt := PySem.Challenge.pw_gapcarts_k14_whole_turned_rings.main.body.getD i (.Pass ⟨0, 0, 0, 0⟩)
def dn : List Str := (["is_whole", "is_ring", "need_ring", "is_good_row", "need_row", "all_gaps", "goings", "moved", "next_row", "need_moment", "need_all", "ahead_of", "asked", "least_at", "all_gone", "gone", "row_at", "after", "held", "does_run", "does_back", "settled", "settles", "goes_before", "count_of", "how_many", "_law_cell", "_law_drawn", "_law_roll", "_law_rounds"] : List Str) ++ (["_law_any_ring", "_law_any_row", "_law_turned", "_law_stays_ahead", "law"] : List Str)
def cn : List Str := ["BadRing", "BadRow", "BadNumber"]
def gls : List (Str × Int) := [("FARTHEST", 1000000000000000000)]
def cls : List (Str × Nat) := [("BadRing", 0), ("BadRow", 1), ("BadNumber", 2)]
def fn : List He.DefD := [ddOf "is_whole" (top 6), ddOf "is_ring" (top 7), ddOf "need_ring" (top 8), ddOf "is_good_row" (top 9), ddOf "need_row" (top 10), ddOf "all_gaps" (top 11), ddOf "goings" (top 12), ddOf "moved" (top 13), ddOf "next_row" (top 14), ddOf "need_moment" (top 17), ddOf "need_all" (top 18), ddOf "ahead_of" (top 19), ddOf "asked" (top 20), ddOf "least_at" (top 21), ddOf "all_gone" (top 22), ddOf "gone" (top 23), ddOf "row_at" (top 24), ddOf "after" (top 25), ddOf "held" (top 26), ddOf "does_run" (top 28), ddOf "does_back" (top 29), ddOf "settled" (top 30), ddOf "settles" (top 31), ddOf "goes_before" (top 33), ddOf "count_of" (top 34), ddOf "how_many" (top 35), ddOf "_law_cell" (top 37), ddOf "_law_drawn" (top 38), ddOf "_law_roll" (top 39), ddOf "_law_rounds" (top 40), ddOf "_law_any_ring" (top 41), ddOf "_law_any_row" (top 42), ddOf "_law_turned" (top 43), ddOf "_law_stays_ahead" (top 44), ddOf "law" (top 45)]
def fa : List He.Fa := faOf dn cn gls []
abbrev Rw : PySem.W.OpenRow := PySem.W.OpenLaw.row PySem.Challenge.rw_gapcarts_k14_whole_turned_rings
abbrev hk : PySem.W.Hook := He.hookD 4 fa fn
def ob (s : PySem.W.SharedT) : He.AlD := He.obsDG 4 fa fn (HandSHeadRun.getT s)
theorem ob_eq (s : PySem.W.SharedT) : ob s = hk.obs s.abs := He.obsDG_eq (HandSHeadRun.getT_eq s)
def ls0 : List Str := ["CartError", "BadRing", "BadRow", "BadNumber", "is_whole", "is_ring", "need_ring", "is_good_row", "need_row", "all_gaps", "goings", "moved", "next_row", "FARTHEST", "need_moment", "need_all", "ahead_of", "asked", "least_at", "all_gone", "gone", "row_at", "after", "held", "does_run", "does_back", "settled", "settles", "goes_before", "count_of"]
def ls1 : List Str := ["how_many", "_law_cell", "_law_drawn", "_law_roll", "_law_rounds", "_law_any_ring", "_law_any_row", "_law_turned", "_law_stays_ahead"]
def loose : List Str := ls0 ++ ls1
theorem run (w : World) : HandSHeadRun.RunEq Rw (PySem.W.view Rw.prog [45]) hk ob 6000 loose w := by
  intro os
  kernel_rfl
section
variable {w : World} {K : PySem.W.Frag} {h base : Heap} {mg : Str → Option Value}
abbrev PP : Program := (PySem.Challenge.rw_gapcarts_k14_whole_turned_rings).prog
abbrev WW (K : PySem.W.Frag) : Wd := mkW K [] tab0
abbrev KK (w : World) (K : PySem.W.Frag) (mg : Str → Option Value) (base : Heap) (lv : Nat) (e : KF) : Prop := Kn PP w (WW K) mg base lv e
theorem gg (X : K.In h) (G : h.Ns mainGlobals mg) (c : He.SaysD fa fn K) : Gs PP w (WW K) mg gls cls := gs_of X G c good0 (by decide +kernel)
theorem k_is_whole (X : K.In h) (G : h.Ns mainGlobals mg) (c : He.SaysD fa fn K) : KK w K mg base 1 e_is_whole := kn_at (ps := ["thing", "low", "high"]) (N := ["thing", "low", "high"]) (l := T_is_whole) (body := b_is_whole) (st := top 6) X G c (gg X G c) 0 (by rfl) (by decide +kernel) (fun _ _ _ _ _ _ us hl => match us, hl with | [_, _, _], _ => rfl) ⟨rfl, rfl, rfl, by decide +kernel, rfl, by decide +kernel, by decide +kernel⟩ (by decide +kernel) (by decide) trivial rfl
theorem k_is_ring (X : K.In h) (G : h.Ns mainGlobals mg) (c : He.SaysD fa fn K) (q_is_whole : KK w K mg base 1 e_is_whole) : KK w K mg base 2 e_is_ring := kn_at (ps := ["thing"]) (N := ["thing"]) (l := T_is_ring) (body := b_is_ring) (st := top 7) X G c (gg X G c) 1 (by rfl) (by decide +kernel) (fun _ _ _ _ _ _ us hl => match us, hl with | [_], _ => rfl) ⟨rfl, rfl, rfl, by decide +kernel, rfl, by decide +kernel, by decide +kernel⟩ (by decide +kernel) (by decide) ⟨q_is_whole.mono (by decide), trivial⟩ rfl
theorem k_need_ring (X : K.In h) (G : h.Ns mainGlobals mg) (c : He.SaysD fa fn K) (q_is_ring : KK w K mg base 2 e_is_ring) : KK w K mg base 3 e_need_ring := kn_at (ps := ["thing"]) (N := ["thing"]) (l := T_need_ring) (body := b_need_ring) (st := top 8) X G c (gg X G c) 2 (by rfl) (by decide +kernel) (fun _ _ _ _ _ _ us hl => match us, hl with | [_], _ => rfl) ⟨rfl, rfl, rfl, by decide +kernel, rfl, by decide +kernel, by decide +kernel⟩ (by decide +kernel) (by decide) ⟨q_is_ring.mono (by decide), trivial⟩ rfl
theorem k_is_good_row (X : K.In h) (G : h.Ns mainGlobals mg) (c : He.SaysD fa fn K) (q_is_whole : KK w K mg base 1 e_is_whole) : KK w K mg base 2 e_is_good_row := kn_at (ps := ["ring", "thing"]) (N := ["ring", "thing", "one", "other"]) (l := T_is_good_row) (body := b_is_good_row) (st := top 9) X G c (gg X G c) 3 (by rfl) (by decide +kernel) (fun _ _ _ _ _ _ us hl => match us, hl with | [_, _], _ => rfl) ⟨rfl, rfl, rfl, by decide +kernel, rfl, by decide +kernel, by decide +kernel⟩ (by decide +kernel) (by decide) ⟨q_is_whole.mono (by decide), trivial⟩ rfl
theorem k_need_row (X : K.In h) (G : h.Ns mainGlobals mg) (c : He.SaysD fa fn K) (q_need_ring : KK w K mg base 3 e_need_ring) (q_is_good_row : KK w K mg base 2 e_is_good_row) : KK w K mg base 4 e_need_row := kn_at (ps := ["ring", "row"]) (N := ["ring", "row"]) (l := T_need_row) (body := b_need_row) (st := top 10) X G c (gg X G c) 4 (by rfl) (by decide +kernel) (fun _ _ _ _ _ _ us hl => match us, hl with | [_, _], _ => rfl) ⟨rfl, rfl, rfl, by decide +kernel, rfl, by decide +kernel, by decide +kernel⟩ (by decide +kernel) (by decide) ⟨q_need_ring.mono (by decide), ⟨q_is_good_row.mono (by decide), trivial⟩⟩ rfl
theorem k_all_gaps (X : K.In h) (G : h.Ns mainGlobals mg) (c : He.SaysD fa fn K) : KK w K mg base 1 e_all_gaps := kn_at (ps := ["ring", "row"]) (N := ["ring", "row", "nexts", "one", "other"]) (l := T_all_gaps) (body := b_all_gaps) (st := top 11) X G c (gg X G c) 5 (by rfl) (by decide +kernel) (fun _ _ _ _ _ _ us hl => match us, hl with | [_, _], _ => rfl) ⟨rfl, rfl, rfl, by decide +kernel, rfl, by decide +kernel, by decide +kernel⟩ (by decide +kernel) (by decide) trivial rfl
theorem k_goings (X : K.In h) (G : h.Ns mainGlobals mg) (c : He.SaysD fa fn K) (q_all_gaps : KK w K mg base 1 e_all_gaps) : KK w K mg base 2 e_goings := kn_at (ps := ["ring", "row"]) (N := ["ring", "row", "gap"]) (l := T_goings) (body := b_goings) (st := top 12) X G c (gg X G c) 6 (by rfl) (by decide +kernel) (fun _ _ _ _ _ _ us hl => match us, hl with | [_, _], _ => rfl) ⟨rfl, rfl, rfl, by decide +kernel, rfl, by decide +kernel, by decide +kernel⟩ (by decide +kernel) (by decide) ⟨q_all_gaps.mono (by decide), trivial⟩ rfl
theorem k_moved (X : K.In h) (G : h.Ns mainGlobals mg) (c : He.SaysD fa fn K) : KK w K mg base 1 e_moved := kn_at (ps := ["ring", "row", "some"]) (N := ["ring", "row", "some", "cell", "many"]) (l := T_moved) (body := b_moved) (st := top 13) X G c (gg X G c) 7 (by rfl) (by decide +kernel) (fun _ _ _ _ _ _ us hl => match us, hl with | [_, _, _], _ => rfl) ⟨rfl, rfl, rfl, by decide +kernel, rfl, by decide +kernel, by decide +kernel⟩ (by decide +kernel) (by decide) trivial rfl
theorem k_next_row (X : K.In h) (G : h.Ns mainGlobals mg) (c : He.SaysD fa fn K) (q_moved : KK w K mg base 1 e_moved) (q_goings : KK w K mg base 2 e_goings) : KK w K mg base 3 e_next_row := kn_at (ps := ["ring", "row"]) (N := ["ring", "row"]) (l := T_next_row) (body := b_next_row) (st := top 14) X G c (gg X G c) 8 (by rfl) (by decide +kernel) (fun _ _ _ _ _ _ us hl => match us, hl with | [_, _], _ => rfl) ⟨rfl, rfl, rfl, by decide +kernel, rfl, by decide +kernel, by decide +kernel⟩ (by decide +kernel) (by decide) ⟨q_moved.mono (by decide), ⟨q_goings.mono (by decide), trivial⟩⟩ rfl
theorem k_need_moment (X : K.In h) (G : h.Ns mainGlobals mg) (c : He.SaysD fa fn K) (q_is_whole : KK w K mg base 1 e_is_whole) : KK w K mg base 2 e_need_moment := kn_at (ps := ["moment"]) (N := ["moment"]) (l := T_need_moment) (body := b_need_moment) (st := top 17) X G c (gg X G c) 9 (by rfl) (by decide +kernel) (fun _ _ _ _ _ _ us hl => match us, hl with | [_], _ => rfl) ⟨rfl, rfl, rfl, by decide +kernel, rfl, by decide +kernel, by decide +kernel⟩ (by decide +kernel) (by decide) ⟨q_is_whole.mono (by decide), trivial⟩ rfl
theorem k_need_all (X : K.In h) (G : h.Ns mainGlobals mg) (c : He.SaysD fa fn K) (q_need_row : KK w K mg base 4 e_need_row) (q_need_moment : KK w K mg base 2 e_need_moment) : KK w K mg base 5 e_need_all := kn_at (ps := ["ring", "row", "moment"]) (N := ["ring", "row", "moment"]) (l := T_need_all) (body := b_need_all) (st := top 18) X G c (gg X G c) 10 (by rfl) (by decide +kernel) (fun _ _ _ _ _ _ us hl => match us, hl with | [_, _, _], _ => rfl) ⟨rfl, rfl, rfl, by decide +kernel, rfl, by decide +kernel, by decide +kernel⟩ (by decide +kernel) (by decide) ⟨q_need_row.mono (by decide), ⟨q_need_moment.mono (by decide), trivial⟩⟩ rfl
theorem k_ahead_of (X : K.In h) (G : h.Ns mainGlobals mg) (c : He.SaysD fa fn K) : KK w K mg base 1 e_ahead_of := kn_at (ps := ["ring", "row", "cart", "many"]) (N := ["ring", "row", "cart", "many", "rounds"]) (l := T_ahead_of) (body := b_ahead_of) (st := top 19) X G c (gg X G c) 11 (by rfl) (by decide +kernel) (fun _ _ _ _ _ _ us hl => match us, hl with | [_, _, _, _], _ => rfl) ⟨rfl, rfl, rfl, by decide +kernel, rfl, by decide +kernel, by decide +kernel⟩ (by decide +kernel) (by decide) trivial rfl
theorem k_asked (X : K.In h) (G : h.Ns mainGlobals mg) (c : He.SaysD fa fn K) : KK w K mg base 1 e_asked := kn_at (ps := ["ring", "row", "moment"]) (N := ["ring", "row", "moment", "carts"]) (l := T_asked) (body := b_asked) (st := top 20) X G c (gg X G c) 12 (by rfl) (by decide +kernel) (fun _ _ _ _ _ _ us hl => match us, hl with | [_, _, _], _ => rfl) ⟨rfl, rfl, rfl, by decide +kernel, rfl, by decide +kernel, by decide +kernel⟩ (by decide +kernel) (by decide) trivial rfl
theorem k_least_at (X : K.In h) (G : h.Ns mainGlobals mg) (c : He.SaysD fa fn K) (q_asked : KK w K mg base 1 e_asked) (q_ahead_of : KK w K mg base 1 e_ahead_of) : KK w K mg base 2 e_least_at := kn_at (ps := ["ring", "row", "cart", "moment"]) (N := ["ring", "row", "cart", "moment", "some", "many"]) (l := T_least_at) (body := b_least_at) (st := top 21) X G c (gg X G c) 13 (by rfl) (by decide +kernel) (fun _ _ _ _ _ _ us hl => match us, hl with | [_, _, _, _], _ => rfl) ⟨rfl, rfl, rfl, by decide +kernel, rfl, by decide +kernel, by decide +kernel⟩ (by decide +kernel) (by decide) ⟨q_asked.mono (by decide), ⟨q_ahead_of.mono (by decide), trivial⟩⟩ rfl
theorem k_all_gone (X : K.In h) (G : h.Ns mainGlobals mg) (c : He.SaysD fa fn K) (q_least_at : KK w K mg base 2 e_least_at) : KK w K mg base 3 e_all_gone := kn_at (ps := ["ring", "row", "moment"]) (N := ["ring", "row", "moment", "cart"]) (l := T_all_gone) (body := b_all_gone) (st := top 22) X G c (gg X G c) 14 (by rfl) (by decide +kernel) (fun _ _ _ _ _ _ us hl => match us, hl with | [_, _, _], _ => rfl) ⟨rfl, rfl, rfl, by decide +kernel, rfl, by decide +kernel, by decide +kernel⟩ (by decide +kernel) (by decide) ⟨q_least_at.mono (by decide), trivial⟩ rfl
theorem k_gone (X : K.In h) (G : h.Ns mainGlobals mg) (c : He.SaysD fa fn K) (q_need_all : KK w K mg base 5 e_need_all) (q_all_gone : KK w K mg base 3 e_all_gone) : KK w K mg base 6 e_gone := kn_at (ps := ["ring", "row", "moment"]) (N := ["ring", "row", "moment"]) (l := T_gone) (body := b_gone) (st := top 23) X G c (gg X G c) 15 (by rfl) (by decide +kernel) (fun _ _ _ _ _ _ us hl => match us, hl with | [_, _, _], _ => rfl) ⟨rfl, rfl, rfl, by decide +kernel, rfl, by decide +kernel, by decide +kernel⟩ (by decide +kernel) (by decide) ⟨q_need_all.mono (by decide), ⟨q_all_gone.mono (by decide), trivial⟩⟩ rfl
theorem k_row_at (X : K.In h) (G : h.Ns mainGlobals mg) (c : He.SaysD fa fn K) (q_moved : KK w K mg base 1 e_moved) (q_all_gone : KK w K mg base 3 e_all_gone) : KK w K mg base 4 e_row_at := kn_at (ps := ["ring", "row", "moment"]) (N := ["ring", "row", "moment"]) (l := T_row_at) (body := b_row_at) (st := top 24) X G c (gg X G c) 16 (by rfl) (by decide +kernel) (fun _ _ _ _ _ _ us hl => match us, hl with | [_, _, _], _ => rfl) ⟨rfl, rfl, rfl, by decide +kernel, rfl, by decide +kernel, by decide +kernel⟩ (by decide +kernel) (by decide) ⟨q_moved.mono (by decide), ⟨q_all_gone.mono (by decide), trivial⟩⟩ rfl
theorem k_after (X : K.In h) (G : h.Ns mainGlobals mg) (c : He.SaysD fa fn K) (q_need_all : KK w K mg base 5 e_need_all) (q_row_at : KK w K mg base 4 e_row_at) : KK w K mg base 6 e_after := kn_at (ps := ["ring", "row", "moment"]) (N := ["ring", "row", "moment"]) (l := T_after) (body := b_after) (st := top 25) X G c (gg X G c) 17 (by rfl) (by decide +kernel) (fun _ _ _ _ _ _ us hl => match us, hl with | [_, _, _], _ => rfl) ⟨rfl, rfl, rfl, by decide +kernel, rfl, by decide +kernel, by decide +kernel⟩ (by decide +kernel) (by decide) ⟨q_need_all.mono (by decide), ⟨q_row_at.mono (by decide), trivial⟩⟩ rfl
theorem k_held (X : K.In h) (G : h.Ns mainGlobals mg) (c : He.SaysD fa fn K) (q_need_all : KK w K mg base 5 e_need_all) (q_all_gone : KK w K mg base 3 e_all_gone) : KK w K mg base 6 e_held := kn_at (ps := ["ring", "row", "moment"]) (N := ["ring", "row", "moment", "many"]) (l := T_held) (body := b_held) (st := top 26) X G c (gg X G c) 18 (by rfl) (by decide +kernel) (fun _ _ _ _ _ _ us hl => match us, hl with | [_, _, _], _ => rfl) ⟨rfl, rfl, rfl, by decide +kernel, rfl, by decide +kernel, by decide +kernel⟩ (by decide +kernel) (by decide) ⟨q_need_all.mono (by decide), ⟨q_all_gone.mono (by decide), trivial⟩⟩ rfl
theorem k_does_run (X : K.In h) (G : h.Ns mainGlobals mg) (c : He.SaysD fa fn K) (q_all_gaps : KK w K mg base 1 e_all_gaps) : KK w K mg base 2 e_does_run := kn_at (ps := ["ring", "row"]) (N := ["ring", "row"]) (l := T_does_run) (body := b_does_run) (st := top 28) X G c (gg X G c) 19 (by rfl) (by decide +kernel) (fun _ _ _ _ _ _ us hl => match us, hl with | [_, _], _ => rfl) ⟨rfl, rfl, rfl, by decide +kernel, rfl, by decide +kernel, by decide +kernel⟩ (by decide +kernel) (by decide) ⟨q_all_gaps.mono (by decide), trivial⟩ rfl
theorem k_does_back (X : K.In h) (G : h.Ns mainGlobals mg) (c : He.SaysD fa fn K) (q_all_gaps : KK w K mg base 1 e_all_gaps) : KK w K mg base 2 e_does_back := kn_at (ps := ["ring", "row"]) (N := ["ring", "row"]) (l := T_does_back) (body := b_does_back) (st := top 29) X G c (gg X G c) 20 (by rfl) (by decide +kernel) (fun _ _ _ _ _ _ us hl => match us, hl with | [_, _], _ => rfl) ⟨rfl, rfl, rfl, by decide +kernel, rfl, by decide +kernel, by decide +kernel⟩ (by decide +kernel) (by decide) ⟨q_all_gaps.mono (by decide), trivial⟩ rfl
theorem k_settled (X : K.In h) (G : h.Ns mainGlobals mg) (c : He.SaysD fa fn K) (q_does_back : KK w K mg base 2 e_does_back) (q_does_run : KK w K mg base 2 e_does_run) (q_next_row : KK w K mg base 3 e_next_row) : KK w K mg base 4 e_settled := kn_at (ps := ["ring", "row"]) (N := ["ring", "row", "moment"]) (l := T_settled) (body := b_settled) (st := top 30) X G c (gg X G c) 21 (by rfl) (by decide +kernel) (fun _ _ _ _ _ _ us hl => match us, hl with | [_, _], _ => rfl) ⟨rfl, rfl, rfl, by decide +kernel, rfl, by decide +kernel, by decide +kernel⟩ (by decide +kernel) (by decide) ⟨q_does_back.mono (by decide), ⟨q_does_run.mono (by decide), ⟨q_next_row.mono (by decide), trivial⟩⟩⟩ rfl
theorem k_settles (X : K.In h) (G : h.Ns mainGlobals mg) (c : He.SaysD fa fn K) (q_need_row : KK w K mg base 4 e_need_row) (q_settled : KK w K mg base 4 e_settled) : KK w K mg base 5 e_settles := kn_at (ps := ["ring", "row"]) (N := ["ring", "row"]) (l := T_settles) (body := b_settles) (st := top 31) X G c (gg X G c) 22 (by rfl) (by decide +kernel) (fun _ _ _ _ _ _ us hl => match us, hl with | [_, _], _ => rfl) ⟨rfl, rfl, rfl, by decide +kernel, rfl, by decide +kernel, by decide +kernel⟩ (by decide +kernel) (by decide) ⟨q_need_row.mono (by decide), ⟨q_settled.mono (by decide), trivial⟩⟩ rfl
theorem k_goes_before (X : K.In h) (G : h.Ns mainGlobals mg) (c : He.SaysD fa fn K) : KK w K mg base 1 e_goes_before := kn_at (ps := ["reach", "gap", "ahead"]) (N := ["reach", "gap", "ahead"]) (l := T_goes_before) (body := b_goes_before) (st := top 33) X G c (gg X G c) 23 (by rfl) (by decide +kernel) (fun _ _ _ _ _ _ us hl => match us, hl with | [_, _, _], _ => rfl) ⟨rfl, rfl, rfl, by decide +kernel, rfl, by decide +kernel, by decide +kernel⟩ (by decide +kernel) (by decide) trivial rfl
theorem k_count_of (X : K.In h) (G : h.Ns mainGlobals mg) (c : He.SaysD fa fn K) (q_all_gaps : KK w K mg base 1 e_all_gaps) (q_goes_before : KK w K mg base 1 e_goes_before) : KK w K mg base 2 e_count_of := kn_at (ps := ["ring", "row"]) (N := ["ring", "row", "last", "total", "some", "table", "gap", "fresh", "ahead", "many"]) (l := T_count_of) (body := b_count_of) (st := top 34) X G c (gg X G c) 24 (by rfl) (by decide +kernel) (fun _ _ _ _ _ _ us hl => match us, hl with | [_, _], _ => rfl) ⟨rfl, rfl, rfl, by decide +kernel, rfl, by decide +kernel, by decide +kernel⟩ (by decide +kernel) (by decide) ⟨q_all_gaps.mono (by decide), ⟨q_goes_before.mono (by decide), trivial⟩⟩ rfl
theorem k_how_many (X : K.In h) (G : h.Ns mainGlobals mg) (c : He.SaysD fa fn K) (q_need_row : KK w K mg base 4 e_need_row) (q_count_of : KK w K mg base 2 e_count_of) : KK w K mg base 5 e_how_many := kn_at (ps := ["ring", "row"]) (N := ["ring", "row"]) (l := T_how_many) (body := b_how_many) (st := top 35) X G c (gg X G c) 25 (by rfl) (by decide +kernel) (fun _ _ _ _ _ _ us hl => match us, hl with | [_, _], _ => rfl) ⟨rfl, rfl, rfl, by decide +kernel, rfl, by decide +kernel, by decide +kernel⟩ (by decide +kernel) (by decide) ⟨q_need_row.mono (by decide), ⟨q_count_of.mono (by decide), trivial⟩⟩ rfl
theorem k__law_cell (X : K.In h) (G : h.Ns mainGlobals mg) (c : He.SaysD fa fn K) : KK w K mg base 1 e__law_cell := kn_at (ps := ["_law_script", "_law_k"]) (N := ["_law_script", "_law_k"]) (l := T__law_cell) (body := b__law_cell) (st := top 37) X G c (gg X G c) 26 (by rfl) (by decide +kernel) (fun _ _ _ _ _ _ us hl => match us, hl with | [_, _], _ => rfl) ⟨rfl, rfl, rfl, by decide +kernel, rfl, by decide +kernel, by decide +kernel⟩ (by decide +kernel) (by decide) trivial rfl
theorem k__law_drawn (X : K.In h) (G : h.Ns mainGlobals mg) (c : He.SaysD fa fn K) : KK w K mg base 1 e__law_drawn := kn_at (ps := ["_law_cell_here", "_law_k"]) (N := ["_law_cell_here", "_law_k", "_law_more"]) (l := T__law_drawn) (body := b__law_drawn) (st := top 38) X G c (gg X G c) 27 (by rfl) (by decide +kernel) (fun _ _ _ _ _ _ us hl => match us, hl with | [_, _], _ => rfl) ⟨rfl, rfl, rfl, by decide +kernel, rfl, by decide +kernel, by decide +kernel⟩ (by decide +kernel) (by decide) trivial rfl
theorem k__law_roll (X : K.In h) (G : h.Ns mainGlobals mg) (c : He.SaysD fa fn K) (q__law_drawn : KK w K mg base 1 e__law_drawn) : KK w K mg base 2 e__law_roll := kn_at (ps := ["_law_dice", "_law_many"]) (N := ["_law_dice", "_law_many", "_law_told"]) (l := T__law_roll) (body := b__law_roll) (st := top 39) X G c (gg X G c) 28 (by rfl) (by decide +kernel) (fun _ _ _ _ _ _ us hl => match us, hl with | [_, _], _ => rfl) ⟨rfl, rfl, rfl, by decide +kernel, rfl, by decide +kernel, by decide +kernel⟩ (by decide +kernel) (by decide) ⟨q__law_drawn.mono (by decide), trivial⟩ rfl
theorem k__law_rounds (X : K.In h) (G : h.Ns mainGlobals mg) (c : He.SaysD fa fn K) (q__law_cell : KK w K mg base 1 e__law_cell) : KK w K mg base 2 e__law_rounds := kn_at (ps := ["_law_script", "_law_high"]) (N := ["_law_script", "_law_high", "_law_k"]) (l := T__law_rounds) (body := b__law_rounds) (st := top 40) X G c (gg X G c) 29 (by rfl) (by decide +kernel) (fun _ _ _ _ _ _ us hl => match us, hl with | [_, _], _ => rfl) ⟨rfl, rfl, rfl, by decide +kernel, rfl, by decide +kernel, by decide +kernel⟩ (by decide +kernel) (by decide) ⟨q__law_cell.mono (by decide), trivial⟩ rfl
theorem k__law_any_ring (X : K.In h) (G : h.Ns mainGlobals mg) (c : He.SaysD fa fn K) (q__law_roll : KK w K mg base 2 e__law_roll) : KK w K mg base 3 e__law_any_ring := kn_at (ps := ["_law_dice", "_law_high"]) (N := ["_law_dice", "_law_high"]) (l := T__law_any_ring) (body := b__law_any_ring) (st := top 41) X G c (gg X G c) 30 (by rfl) (by decide +kernel) (fun _ _ _ _ _ _ us hl => match us, hl with | [_, _], _ => rfl) ⟨rfl, rfl, rfl, by decide +kernel, rfl, by decide +kernel, by decide +kernel⟩ (by decide +kernel) (by decide) ⟨q__law_roll.mono (by decide), trivial⟩ rfl
theorem k__law_any_row (X : K.In h) (G : h.Ns mainGlobals mg) (c : He.SaysD fa fn K) (q__law_roll : KK w K mg base 2 e__law_roll) : KK w K mg base 3 e__law_any_row := kn_at (ps := ["_law_dice", "_law_ring"]) (N := ["_law_dice", "_law_ring", "_law_found", "_law_act", "_law_cells", "_law_cell_here"]) (l := T__law_any_row) (body := b__law_any_row) (st := top 42) X G c (gg X G c) 31 (by rfl) (by decide +kernel) (fun _ _ _ _ _ _ us hl => match us, hl with | [_, _], _ => rfl) ⟨rfl, rfl, rfl, by decide +kernel, rfl, by decide +kernel, by decide +kernel⟩ (by decide +kernel) (by decide) ⟨q__law_roll.mono (by decide), trivial⟩ rfl
theorem k__law_turned (X : K.In h) (G : h.Ns mainGlobals mg) (c : He.SaysD fa fn K) : KK w K mg base 1 e__law_turned := kn_at (ps := ["_law_ring", "_law_row", "_law_many"]) (N := ["_law_ring", "_law_row", "_law_many", "_law_cell_here"]) (l := T__law_turned) (body := b__law_turned) (st := top 43) X G c (gg X G c) 32 (by rfl) (by decide +kernel) (fun _ _ _ _ _ _ us hl => match us, hl with | [_, _, _], _ => rfl) ⟨rfl, rfl, rfl, by decide +kernel, rfl, by decide +kernel, by decide +kernel⟩ (by decide +kernel) (by decide) trivial rfl
theorem k__law_stays_ahead (X : K.In h) (G : h.Ns mainGlobals mg) (c : He.SaysD fa fn K) (q__law_roll : KK w K mg base 2 e__law_roll) (q_gone : KK w K mg base 6 e_gone) : KK w K mg base 7 e__law_stays_ahead := kn_at (ps := ["_law_dice", "_law_ring", "_law_row", "_law_spots", "_law_moment"]) (N := ["_law_dice", "_law_ring", "_law_row", "_law_spots", "_law_moment", "_law_front", "_law_nexts", "_law_clash", "_law_lead", "_law_cell_here", "_law_one", "_law_other", "_law_went"]) (l := T__law_stays_ahead) (body := b__law_stays_ahead) (st := top 44) X G c (gg X G c) 33 (by rfl) (by decide +kernel) (fun _ _ _ _ _ _ us hl => match us, hl with | [_, _, _, _, _], _ => rfl) ⟨rfl, rfl, rfl, by decide +kernel, rfl, by decide +kernel, by decide +kernel⟩ (by decide +kernel) (by decide) ⟨q__law_roll.mono (by decide), ⟨q_gone.mono (by decide), trivial⟩⟩ rfl
theorem k_all (X : K.In h) (G : h.Ns mainGlobals mg) (c : He.SaysD fa fn K) : KnA PP w (WW K) mg base 7 T_law := by
  have q_is_whole := k_is_whole (w := w) (base := base) X G c
  have q_is_ring := k_is_ring (w := w) (base := base) X G c q_is_whole
  have q_need_ring := k_need_ring (w := w) (base := base) X G c q_is_ring
  have q_is_good_row := k_is_good_row (w := w) (base := base) X G c q_is_whole
  have q_need_row := k_need_row (w := w) (base := base) X G c q_need_ring q_is_good_row
  have q_all_gaps := k_all_gaps (w := w) (base := base) X G c
  have q_goings := k_goings (w := w) (base := base) X G c q_all_gaps
  have q_moved := k_moved (w := w) (base := base) X G c
  have q_next_row := k_next_row (w := w) (base := base) X G c q_moved q_goings
  have q_need_moment := k_need_moment (w := w) (base := base) X G c q_is_whole
  have q_need_all := k_need_all (w := w) (base := base) X G c q_need_row q_need_moment
  have q_ahead_of := k_ahead_of (w := w) (base := base) X G c
  have q_asked := k_asked (w := w) (base := base) X G c
  have q_least_at := k_least_at (w := w) (base := base) X G c q_asked q_ahead_of
  have q_all_gone := k_all_gone (w := w) (base := base) X G c q_least_at
  have q_gone := k_gone (w := w) (base := base) X G c q_need_all q_all_gone
  have q_row_at := k_row_at (w := w) (base := base) X G c q_moved q_all_gone
  have q_after := k_after (w := w) (base := base) X G c q_need_all q_row_at
  have q_held := k_held (w := w) (base := base) X G c q_need_all q_all_gone
  have q_does_run := k_does_run (w := w) (base := base) X G c q_all_gaps
  have q_does_back := k_does_back (w := w) (base := base) X G c q_all_gaps
  have q_settled := k_settled (w := w) (base := base) X G c q_does_back q_does_run q_next_row
  have q_settles := k_settles (w := w) (base := base) X G c q_need_row q_settled
  have q_goes_before := k_goes_before (w := w) (base := base) X G c
  have q_count_of := k_count_of (w := w) (base := base) X G c q_all_gaps q_goes_before
  have q_how_many := k_how_many (w := w) (base := base) X G c q_need_row q_count_of
  have q__law_cell := k__law_cell (w := w) (base := base) X G c
  have q__law_drawn := k__law_drawn (w := w) (base := base) X G c
  have q__law_roll := k__law_roll (w := w) (base := base) X G c q__law_drawn
  have q__law_rounds := k__law_rounds (w := w) (base := base) X G c q__law_cell
  have q__law_any_ring := k__law_any_ring (w := w) (base := base) X G c q__law_roll
  have q__law_any_row := k__law_any_row (w := w) (base := base) X G c q__law_roll
  have q__law_turned := k__law_turned (w := w) (base := base) X G c
  have q__law_stays_ahead := k__law_stays_ahead (w := w) (base := base) X G c q__law_roll q_gone
  exact ⟨q__law_rounds.mono (by decide), ⟨q__law_any_ring.mono (by decide), ⟨q__law_roll.mono (by decide), ⟨q__law_any_row.mono (by decide), ⟨q_after.mono (by decide), ⟨q__law_turned.mono (by decide), ⟨q_settles.mono (by decide), ⟨q_how_many.mono (by decide), ⟨q_gone.mono (by decide), ⟨q__law_stays_ahead.mono (by decide), ⟨q_held.mono (by decide), trivial⟩⟩⟩⟩⟩⟩⟩⟩⟩⟩⟩
end
theorem law_yes : ∀ ns : List Int, ns.length ≤ 63 → (∀ z ∈ ns, Builtin.Int.intBits z ≤ 1048576) → ∃ M, f_law [scrOf ns] [] = .ok (.bl true) M := fun ns h _ => law_true ns h
theorem facts {w : World} {K : PySem.W.Frag} {h : Heap} {mg : Str → Option Value} {f : Addr} (X : K.In h) (G : h.Ns mainGlobals mg) (hfa : mg ("law" : Str) = some (.ref f)) (c : He.SaysD fa fn K) :
    ∃ K : PySem.W.Frag, K.In h ∧ LamX.LawAtS PySem.Challenge.rw_gapcarts_k14_whole_turned_rings w K (L2N.CX PP w) 8 63 "_law_script" mg f h := by
  refine ⟨K, X, ?_⟩
  have m := glo_of X G c (x := "law") (by decide +kernel)
  cases hfa.symm.trans m
  obtain ⟨fd, F⟩ := c.def_ 34 (d := ddOf "law" (top 45)) (by rfl)
  have b := FunD.bindsA (ps := ["_law_script"]) F fun _ _ _ _ _ _ us hl => match us, hl with | [_], _ => rfl
  exact ⟨fd, [], spLaw (WW K), fun p hp => by (cases hp), fun p hp => by (cases hp), fun p hp => by (cases hp), fun s v => b s [v] rfl, fun H a ns hl hb _ hS => ⟨a, ns, rfl, hl, hb, trivial, hS, fun _ => rfl⟩, fun base _ _ _ =>
    law_fn (ps := ["_law_script"]) (N := ["_law_script", "_law_dice", "_law_ring", "_law_there", "_law_single", "_law_empty", "_law_spots", "_law_slower", "_law_row", "_law_many", "_law_moment", "_law_mirror", "_law_due", "_law_cell_here", "_law_went", "_law_one", "_law_other"]) (l := T_law) (body := b_law) (x := "law") (st := top 45) (gg X G c) F ⟨rfl, rfl, rfl, by decide +kernel, rfl, by decide +kernel, by decide +kernel⟩ (by decide +kernel) (by decide) (k_all (w := w) (base := base) X G c) rfl law_yes⟩
end Gc
open PySem PySem.W PySem.Calls PyProof.Rows
theorem PySem.Challenge.cw_gapcarts_k14_whole_turned_rings_holds : PySem.Challenge.rw_gapcarts_k14_whole_turned_rings.Holds := by
  w_on; o_law
  refine HandSHeadRun.head_any (r := OpenLaw.row PySem.Challenge.rw_gapcarts_k14_whole_turned_rings) (q := view (OpenLaw.row PySem.Challenge.rw_gapcarts_k14_whole_turned_rings).prog [45]) (H := Gc.hk) (ob := Gc.ob) (M := 6000) (loose := Gc.loose) (d := HandSHeadRun.topDef (OpenLaw.row PySem.Challenge.rw_gapcarts_k14_whole_turned_rings).prog 45) (kwd := []) Gc.ob_eq
    (by kernel_rfl) (fun s => by kernel_rfl) Gc.run (by kernel_rfl) (by kernel_rfl) (by kernel_rfl) (by rfl) (by first | assumption | decide +kernel) (by decide +kernel) ⟨rfl, rfl, rfl, rfl, rfl, by decide +kernel⟩ ?hw ?hc
  case hw => w_witness2
  case hc =>
    refine LamX.walk_ofTsE (l := PySem.Challenge.rw_gapcarts_k14_whole_turned_rings) (n := 63) (k := 8) (x := "_law_script") (CX := fun w => L2N.CX (PySem.Challenge.rw_gapcarts_k14_whole_turned_rings).prog w) rfl (by decide) (by kernel_rfl) ⟨rfl, by decide, by decide⟩ ?F (fun _ _ _ _ _ z => Mi.cx_no z)
    intro w mg fa h Y G hmg0
    obtain ⟨K, KX, c⟩ := Y
    have hmg : mg ("law" : PySem.Str) = some (.ref fa) := by
      have e : (HandSHeadRun.topDef (OpenLaw.row PySem.Challenge.rw_gapcarts_k14_whole_turned_rings).prog 45).name = ("law" : PySem.Str) := by kernel_rfl
      rw [← e]
      exact hmg0
    exact Gc.facts KX G hmg c
