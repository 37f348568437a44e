import PyProof.Rows.All
import Wide.All
import OpenK.AllK
import Wide.FinOn
import PySem.Challenge.RW_lotstell_k56_whole_even_rows
import HandS.ForMost
import HandS.Wide
import HandS.Deep
import KE.SortData
import KE.DataCmp
import KE.DataIsa
import PyProof.ReprReads
import HandS.TupAny
import PyProof.P3In
import PyProof.ReprRoads
import HandS.Conv
import HandS.WideBits
import HandS.IsInst
import HandS.Style
import HandS.Ends
set_option Elab.async false
set_option linter.all false
set_option maxRecDepth 100000
set_option maxHeartbeats 8000000
/-! PD1: a small language over plain data, and what it does. -/
namespace PD
open PySem PySem.Spec PyProof.Rows L2

abbrev D := PyData
inductive Slot where
  | no | val (d : D) | own (ds : List D) | brw (ds : List D)
abbrev En := List Slot

/-- primitive operations on values -/
inductive Pr where
  | add | sub | mul | fdiv | mod | pow | eq | ne | lt | le | gt | ge | isin | notin | is | isnot
  | neg | ix | sl (lo hi : Bool)
  | len | int | abs | max2 | min2 | sum | all | any | sorted | list | tuple | lrange | maxL | minL | repr | isi (T : String)
  | mindex | mcount | mbits
  deriving DecidableEq

inductive Tg where
  | nm (i : Nat) | tp (ts : List Tg)

inductive IK where
  | seq | rng1 | rng2 | enum | zip | zips
  deriving DecidableEq

inductive Ex where
  | var (i : Nat) | con (d : D) | tup (es : List Ex) | lst (es : List Ex)
  | prm (p : Pr) (es : List Ex)
  | chain (o o' : Pr) (a b c : Ex)
  | and (a b : Ex) | or (a b : Ex) | not (a : Ex) | ite (c a b : Ex)
  | call (f : Nat) (perm : List Nat) (es : List Ex)
  | callg (f : Nat) (i : Nat) (es : List Ex)
  | pop (i : Nat) | popi (i : Nat) (e : Ex)
  | comp (own : List Nat) (tg : Tg) (ik : IK) (its : List Ex) (ifs : List Ex) (elt : Ex)

inductive St where
  | asg (t : Tg) (e : Ex)
  | own (i : Nat) (e : Ex)
  | par (is : List Nat) (es : List Ex)
  | setix (i : Nat) (ix e : Ex)
  | app (i : Nat) (e : Ex)
  | ex (e : Ex)
  | ret (e : Ex)
  | ite (c : Ex) (a b : List St)
  | for (tg : Tg) (ik : IK) (its : List Ex) (body : List St)
  | while (c : Ex) (body : List St)
  | pass | brk | cont | bad

/-! ### primitives -/
def sz (n : Nat) : Bool := decide (n ≤ 1000000)
def ixAt (n : Nat) (i : Int) : Option Nat := ixN n i
def atD (xs : List D) (i : Int) : Option D := (ixAt xs.length i).bind fun j => xs[j]?
def isNonD : D → Bool
  | .none => true
  | _ => false
def ordOk (a b : D) : Bool := PySem.W.alike a b && decide (a.depth ≤ 64)
def isV : D → D → Option Bool
  | x, .none => some (isNonD x)
  | .bool a, .bool b => some (a == b)
  | .none, .bool _ => some false
  | .int _, .bool _ => some false
  | .str _, .bool _ => some false
  | .list _, .bool _ => some false
  | .tuple _, .bool _ => some false
  | _, _ => none
def intsOf : List D → Option (List Int)
  | [] => some []
  | .int i :: r => (intsOf r).map (i :: ·)
  | _ :: _ => none
def boolsOf : List D → Option (List Bool)
  | [] => some []
  | .bool b :: r => (boolsOf r).map (b :: ·)
  | _ :: _ => none
def allAlike (ds : List D) : Bool := ds.all fun a => ds.all fun b => PySem.W.alike a b
def sortableD (ds : List D) : Bool := (ds.all fun d => match d with | .tuple (_ :: _) => true | _ => false) || (ds.all fun d => match d with | .tuple _ => false | .none => false | _ => true)
def sortD (ds : List D) : List D := ds.mergeSort (PySem.W.dataLe false id)
def sIx (n : Nat) (dflt : Nat) : Option Int → Nat
  | none => dflt
  | some i => HT.sIx n dflt (some i)
def cutD (xs : List D) (lo hi : Option Int) : List D := (xs.drop (HT.sIx xs.length 0 lo)).take (HT.sIx xs.length xs.length hi - HT.sIx xs.length 0 lo)
def slArgs : Bool → Bool → List D → Option (Option Int × Option Int)
  | false, false, [] => some (none, none)
  | true, false, [.int i] => some (some i, none)
  | false, true, [.int j] => some (none, some j)
  | true, true, [.int i, .int j] => some (some i, some j)
  | _, _, _ => none
def isiD (T : String) (d : D) : Option Bool :=
  if T = "int" then some d.isInt else if T = "bool" then some d.isBool else if T = "str" then some d.isStr
  else if T = "list" then some d.isList else if T = "tuple" then some d.isTuple else if T = "dict" then some d.isDict else none

def firstEq (d : D) : List D → Nat → Option Nat
  | [], _ => none
  | x :: r, n => if PyData.eqv x d then some n else firstEq d r (n + 1)

def qAdd : D → D → Option D
  | .int i, .int j => some (.int (i + j))
  | .list a, .list b => if sz (a.length + b.length) then some (.list (a ++ b)) else none
  | .tuple a, .tuple b => if sz (a.length + b.length) then some (.tuple (a ++ b)) else none
  | _, _ => none
def qSub : D → D → Option D
  | .int i, .int j => some (.int (i - j))
  | _, _ => none
def qMul : D → D → Option D
  | .int i, .int j => if i.natAbs.log2 + j.natAbs.log2 < 1000000 then some (.int (i * j)) else none
  | .list a, .int k => if 0 ≤ k ∧ k ≤ 1000000 ∧ a.length * k.toNat ≤ 1000000 then some (.list (List.replicate k.toNat a).flatten) else none
  | _, _ => none
def qFdiv : D → D → Option D
  | .int i, .int j => if j ≠ 0 ∧ j.natAbs.log2 < 9000 then some (.int (i.fdiv j)) else none
  | _, _ => none
def qMod : D → D → Option D
  | .int i, .int j => if j ≠ 0 then some (.int (i.fmod j)) else none
  | _, _ => none
def qPow : D → D → Option D
  | .int i, .int j => if 0 ≤ j ∧ i.natAbs.log2 < 10000 ∧ j ≤ 10000 then some (.int (i ^ j.toNat)) else none
  | _, _ => none
def eqOk (a b : D) : Bool := SeqAt.shaped a && SeqAt.shaped b
def qEq (a b : D) : Option D := if eqOk a b then some (.bool (PyData.eqv a b)) else none
def qNe (a b : D) : Option D := if eqOk a b then some (.bool (!PyData.eqv a b)) else none
def ordOk' (a b : D) : Bool := ordOk a b && (match a with | .none => false | _ => true)
def qLt (a b : D) : Option D := if ordOk' a b then some (.bool (PySem.W.dataLt a b)) else none
def qLe (a b : D) : Option D := if ordOk' a b then some (.bool (!PySem.W.dataLt b a)) else none
def qGt (a b : D) : Option D := if ordOk' a b then some (.bool (PySem.W.dataLt b a)) else none
def qGe (a b : D) : Option D := if ordOk' a b then some (.bool (!PySem.W.dataLt a b)) else none
def qIn (d : D) : D → Option D
  | .list ds => if eqOk d (.list ds) then some (.bool (ds.any fun z => PyData.eqv z d)) else none
  | .tuple ds => if eqOk d (.tuple ds) then some (.bool (ds.any fun z => PyData.eqv z d)) else none
  | _ => none
def qNotin (d : D) : D → Option D
  | .list ds => if eqOk d (.list ds) then some (.bool (!ds.any fun z => PyData.eqv z d)) else none
  | .tuple ds => if eqOk d (.tuple ds) then some (.bool (!ds.any fun z => PyData.eqv z d)) else none
  | _ => none
def qIs (a b : D) : Option D := (isV a b).map .bool
def qIsnot (a b : D) : Option D := (isV a b).map fun r => .bool (!r)
def qNeg : D → Option D
  | .int i => some (.int (-i))
  | _ => none
def qIx : D → D → Option D
  | .list xs, .int i => atD xs i
  | .tuple xs, .int i => atD xs i
  | _, _ => none
def qSl (d : D) (lo hi : Option Int) : Option D := match d with
  | .list xs => some (.list (cutD xs lo hi))
  | .tuple xs => some (.tuple (cutD xs lo hi))
  | _ => none
def qLen : D → Option D
  | .list xs => some (.int xs.length)
  | .tuple xs => some (.int xs.length)
  | _ => none
def qInt : D → Option D
  | .int i => some (.int i)
  | .bool b => some (.int (if b then 1 else 0))
  | _ => none
def qAbs : D → Option D
  | .int i => some (.int (if i < 0 then -i else i))
  | _ => none
def qMax2 : D → D → Option D
  | .int i, .int j => some (.int (if j > i then j else i))
  | _, _ => none
def qMin2 : D → D → Option D
  | .int i, .int j => some (.int (if j < i then j else i))
  | _, _ => none
def qSum : D → Option D
  | .list xs => (intsOf xs).map fun ns => .int ns.sum
  | _ => none
def qAll : D → Option D
  | .list xs => (boolsOf xs).map fun bs => .bool (bs.all id)
  | _ => none
def qAny : D → Option D
  | .list xs => (boolsOf xs).map fun bs => .bool (bs.any id)
  | _ => none
def qMaxL : D → Option D
  | .list xs => (intsOf xs).bind fun ns => match ns with | [] => none | n :: r => some (.int (r.foldl max n))
  | _ => none
def qMinL : D → Option D
  | .list xs => (intsOf xs).bind fun ns => match ns with | [] => none | n :: r => some (.int (r.foldl min n))
  | _ => none
def qSorted : D → Option D
  | .list xs => if allAlike xs && sortableD xs && decide (PyData.depthAll xs ≤ 64) && sz xs.length then some (.list (sortD xs)) else none
  | _ => none
def qList : D → Option D
  | .list xs => some (.list xs)
  | .tuple xs => some (.list xs)
  | _ => none
def qTuple : D → Option D
  | .list xs => some (.tuple xs)
  | .tuple xs => some (.tuple xs)
  | _ => none
def rangeD (n : Int) : List D := (List.range n.toNat).map fun (i : Nat) => .int i
def qLrange : D → Option D
  | .int n => if -(2 ^ 60) ≤ n ∧ n ≤ 1000000 then some (.list (rangeD n)) else none
  | _ => none
def reprOk (d : D) : Bool := d.showable && !d.hasDict && decide (d.depth ≤ 64) && sz d.shown.length
def qRepr (d : D) : Option D := if reprOk d then some (.str d.shown) else none
def qIndex : D → D → Option D
  | .list xs, d => if eqOk d (.list xs) then (firstEq d xs 0).map fun n => .int n else none
  | _, _ => none
def qBits : D → Option D
  | .int i => some (.int (Builtin.Int.intBits i : Nat))
  | _ => none

def pr1 : Pr → D → Option D
  | .neg, a => qNeg a
  | .len, a => qLen a
  | .int, a => qInt a
  | .abs, a => qAbs a
  | .sum, a => qSum a
  | .all, a => qAll a
  | .any, a => qAny a
  | .sorted, a => qSorted a
  | .list, a => qList a
  | .tuple, a => qTuple a
  | .lrange, a => qLrange a
  | .maxL, a => qMaxL a
  | .minL, a => qMinL a
  | .repr, a => qRepr a
  | .isi T, a => (isiD T a).map .bool
  | .mbits, a => qBits a
  | .sl false false, a => qSl a none none
  | _, _ => none
def pr2 : Pr → D → D → Option D
  | .add, a, b => qAdd a b
  | .sub, a, b => qSub a b
  | .mul, a, b => qMul a b
  | .fdiv, a, b => qFdiv a b
  | .mod, a, b => qMod a b
  | .pow, a, b => qPow a b
  | .eq, a, b => qEq a b
  | .ne, a, b => qNe a b
  | .lt, a, b => qLt a b
  | .le, a, b => qLe a b
  | .gt, a, b => qGt a b
  | .ge, a, b => qGe a b
  | .isin, a, b => qIn a b
  | .notin, a, b => qNotin a b
  | .is, a, b => qIs a b
  | .isnot, a, b => qIsnot a b
  | .ix, a, b => qIx a b
  | .max2, a, b => qMax2 a b
  | .min2, a, b => qMin2 a b
  | .mindex, a, b => qIndex a b
  | .sl true false, a, .int i => qSl a (some i) none
  | .sl false true, a, .int i => qSl a none (some i)
  | _, _, _ => none
def pr3 : Pr → D → D → D → Option D
  | .sl true true, a, .int i, .int j => qSl a (some i) (some j)
  | _, _, _, _ => none
def pr : Pr → List D → Option D
  | p, [a] => pr1 p a
  | p, [a, b] => pr2 p a b
  | p, [a, b, c] => pr3 p a b c
  | _, _ => none

/-! ### the environment -/
def slot (env : En) (i : Nat) : Slot := env.getD i .no
/-- a name read to be kept: an own list is own no more -/
def rdF (i : Nat) (env : En) : Option (D × En) :=
  match slot env i with
  | .val d => some (d, env)
  | .own ds => some (.list ds, env.set i (.val (.list ds)))
  | _ => none
abbrev Op := D ⊕ Nat
def rs (env : En) : Op → Option D
  | .inl d => some d
  | .inr i => match slot env i with
    | .own ds => some (.list ds)
    | .brw ds => some (.list ds)
    | _ => none
def rsL (env : En) : List Op → Option (List D)
  | [] => some []
  | o :: r => (rs env o).bind fun d => (rsL env r).map (d :: ·)
def isMut : Slot → Bool
  | .own _ => true
  | .brw _ => true
  | _ => false
def isBrw : Slot → Bool
  | .brw _ => true
  | _ => false
def opd (e : Ex) (r : En → Option (D × En)) (env : En) : Option (Op × En) :=
  match e with
  | .var i => if isMut (slot env i) then some (.inr i, env) else (r env).map fun p => (.inl p.1, p.2)
  | _ => (r env).map fun p => (.inl p.1, p.2)

/-! ### targets -/
mutual
def asg : Tg → D → En → Option En
  | .nm i, d, env => if isBrw (slot env i) then none else if i < env.length then some (env.set i (.val d)) else none
  | .tp ts, .tuple ds, env => asgs ts ds env
  | _, _, _ => none
def asgs : List Tg → List D → En → Option En
  | [], [], env => some env
  | t :: ts, d :: ds, env => (asg t d env).bind (asgs ts ds)
  | _, _, _ => none
end

/-! ### what is walked -/
def jSeq : List D → Option (List D)
  | [.list xs] => if sz xs.length then some xs else none
  | [.tuple xs] => if sz xs.length then some xs else none
  | _ => none
def jRng1 : List D → Option (List D)
  | [.int n] => if -(2 ^ 60) ≤ n ∧ n ≤ 1000000 then some (rangeD n) else none
  | _ => none
def jRng2 : List D → Option (List D)
  | [.int a, .int b] => if -(2 ^ 60) ≤ a ∧ a ≤ 2 ^ 60 ∧ -(2 ^ 60) ≤ b ∧ b ≤ 2 ^ 60 ∧ b - a ≤ 1000000 then some ((List.range (b - a).toNat).map fun (i : Nat) => .int (a + i)) else none
  | _ => none
def enumD (xs : List D) : List D := (List.range xs.length).zipWith (fun (i : Nat) x => .tuple [.int i, x]) xs
def jEnum : List D → Option (List D)
  | [.list xs] => if sz xs.length then some (enumD xs) else none
  | _ => none
def zipD (xs ys : List D) : List D := xs.zipWith (fun x y => .tuple [x, y]) ys
def jZip : List D → Option (List D)
  | [.list xs, .list ys] => if sz xs.length && sz ys.length then some (zipD xs ys) else none
  | _ => none
def jZips : List D → Option (List D)
  | [.list xs, .list ys] => if sz xs.length && decide (xs.length = ys.length) then some (zipD xs ys) else none
  | _ => none
def items : IK → List D → Option (List D)
  | .seq, ds => jSeq ds
  | .rng1, ds => jRng1 ds
  | .rng2, ds => jRng2 ds
  | .enum, ds => jEnum ds
  | .zip, ds => jZip ds
  | .zips, ds => jZips ds

def wipeE (env : En) : List Nat → En
  | [] => env
  | i :: r => (wipeE env r).set i .no
def restE (old env : En) : List Nat → En
  | [] => env
  | i :: r => (restE old env r).set i (slot old i)
def noMut (env : En) (l : List Nat) : Bool := l.all fun i => !isMut (slot env i)

/-- the walk of a comprehension: f the turn -/
def consO : Option D → List D → List D
  | some d, l => d :: l
  | none, l => l
def compL (f : D → En → Option (Option D × En)) : List D → En → Option (List D × En)
  | [], env => some ([], env)
  | x :: r, env => (f x env).bind fun p => (compL f r p.2).map fun q => (consO p.1 q.1, q.2)
def isTrueD : D → Option Bool
  | .bool b => some b
  | _ => none
def permL (perm : List Nat) (ds : List D) : Option (List D) :=
  match perm with
  | [] => some ds
  | _ => perm.mapM fun i => ds[i]?

section
variable (C : Nat → List D → Option (D × List D))
mutual
def ev : Ex → En → Option (D × En)
  | .var i, env => rdF i env
  | .con d, env => some (d, env)
  | .tup es, env => (evL es env).map fun p => (.tuple p.1, p.2)
  | .lst es, env => (evL es env).map fun p => (.list p.1, p.2)
  | .prm p es, env => (evB es env).bind fun q => (rsL q.2 q.1).bind fun ds => (pr p ds).map fun d => (d, q.2)
  | .chain o o' a b c, env => (opd a (ev a) env).bind fun x => (opd b (ev b) x.2).bind fun y =>
      (rsL y.2 [x.1, y.1]).bind fun ds => (pr o ds).bind fun r => (isTrueD r).bind fun t =>
        if t then (opd c (ev c) y.2).bind fun z => (rsL z.2 [y.1, z.1]).bind fun ds' => (pr o' ds').map fun d => (d, z.2) else some (.bool false, y.2)
  | .and a b, env => (ev a env).bind fun x => (isTrueD x.1).bind fun t => if t then ev b x.2 else some (.bool false, x.2)
  | .or a b, env => (ev a env).bind fun x => (isTrueD x.1).bind fun t => if t then some (.bool true, x.2) else ev b x.2
  | .not a, env => (ev a env).bind fun x => (isTrueD x.1).map fun t => (.bool (!t), x.2)
  | .ite c a b, env => (ev c env).bind fun x => (isTrueD x.1).bind fun t => if t then ev a x.2 else ev b x.2
  | .call f perm es, env => (evL es env).bind fun p => (permL perm p.1).bind fun ds => (C f ds).map fun r => (r.1, p.2)
  | .callg f i es, env => if isMut (slot env i) then (evL es env).bind fun p => match slot p.2 i with
      | .own gs => (C f (.list gs :: p.1)).map fun r => (r.1, p.2.set i (.own r.2))
      | .brw gs => (C f (.list gs :: p.1)).map fun r => (r.1, p.2.set i (.brw r.2))
      | _ => none else none
  | .pop i, env => match slot env i with
      | .own ds => ds.getLast?.map fun d => (d, env.set i (.own ds.dropLast))
      | _ => none
  | .popi i e, env => (ev e env).bind fun p => match slot p.2 i, p.1 with
      | .own ds, .int k => (ixAt ds.length k).bind fun j => ds[j]?.map fun d => (d, p.2.set i (.own (ds.eraseIdx j)))
      | _, _ => none
  | .comp own tg ik its ifs elt, env => (evL its env).bind fun p => (items ik p.1).bind fun xs =>
      if noMut p.2 own then
        (compL (fun x e => (asg tg x (wipeE e own)).bind fun e1 => (evT ifs e1).bind fun t => if t.1 then (ev elt t.2).map fun r => (some r.1, r.2) else some (none, t.2)) xs p.2).map fun r => (.list r.1, restE p.2 r.2 own)
      else none
def evL : List Ex → En → Option (List D × En)
  | [], env => some ([], env)
  | e :: r, env => (ev e env).bind fun x => (evL r x.2).map fun y => (x.1 :: y.1, y.2)
def evB : List Ex → En → Option (List Op × En)
  | [], env => some ([], env)
  | e :: r, env => (opd e (ev e) env).bind fun x => (evB r x.2).map fun y => (x.1 :: y.1, y.2)
def evT : List Ex → En → Option (Bool × En)
  | [], env => some (true, env)
  | e :: r, env => (ev e env).bind fun x => (isTrueD x.1).bind fun t => if t then evT r x.2 else some (false, x.2)
end
end
end PD

/-! PD2: how a state of the small language lies in the abstract heap. -/
namespace PD
open PySem PySem.Spec PyProof.Rows L2

structure Bs where
  H0 : Hp
  F0 : Hp
  g : Option Addr

mutual
/-- a value that reads as data, by what is tracked in F (tuples by the module's own ones too) -/
inductive Rp (K : PySem.W.Frag) (F : Hp) : V → D → Prop
  | non : Rp K F .non .none
  | bl (b : Bool) : Rp K F (.bl b) (.bool b)
  | int (i : Int) : Rp K F (.int i) (.int i)
  | str (x : Str) : Rp K F (.str x) (.str x)
  | lst {a : Addr} {xs : List V} {ds : List D} : Rd F a (.lst xs) → RpAll K F xs ds → Rp K F (.ref a) (.list ds)
  | tup {a : Addr} {xs : List V} {ds : List D} : SqT K F a xs → RpAll K F xs ds → Rp K F (.ref a) (.tuple ds)
inductive RpAll (K : PySem.W.Frag) (F : Hp) : List V → List D → Prop
  | nil : RpAll K F [] []
  | cons {v : V} {vs : List V} {d : D} {ds : List D} : Rp K F v d → RpAll K F vs ds → RpAll K F (v :: vs) (d :: ds)
end
section
variable {K : PySem.W.Frag}
theorem Rd.mono {F F' : Hp} {a : Addr} {u : HO} (s : Same F F') (h : Rd F a u) : Rd F' a u := by
  rcases h with h | ⟨o, h⟩
  · exact .inl (s _ _ h)
  · exact .inr ⟨o, s _ _ h⟩
mutual
theorem Rp.dp {F : Hp} : ∀ (d : D) (v : V), Rp K F v d → L2.Dp K F v d
  | .none, _, h => by cases h; exact .non
  | .bool _, _, h => by cases h; exact .bl _
  | .int _, _, h => by cases h; exact .int _
  | .str _, _, h => by cases h; exact .str _
  | .list ds, _, h => by
    cases h with
    | lst h1 h2 => exact .lst (.inl h1) (RpAll.dp ds _ h2)
  | .tuple ds, _, h => by
    cases h with
    | tup h1 h2 => exact .tup h1 (RpAll.dp ds _ h2)
  | .dict _, _, h => by cases h
theorem RpAll.dp {F : Hp} : ∀ (ds : List D) (vs : List V), RpAll K F vs ds → L2.DpAll K F vs ds
  | [], _, h => by cases h; exact .nil
  | d :: ds, _, h => by
    cases h with
    | cons h1 h2 => exact .cons (Rp.dp d _ h1) (RpAll.dp ds _ h2)
end
theorem SqL.mono {F F' : Hp} {a : Addr} {xs : List V} (s : Same F F') (h : SqL K F a xs) : SqL K F' a xs := s.seq h
theorem SqT.mono {F F' : Hp} {a : Addr} {xs : List V} (s : Same F F') (h : SqT K F a xs) : SqT K F' a xs := by
  rcases h with (h | ⟨o, h⟩) | h
  · exact .inl (.inl (s _ _ h))
  · exact .inl (.inr ⟨o, s _ _ h⟩)
  · exact .inr h
mutual
theorem Rp.mono {F F' : Hp} (s : Same F F') : ∀ (d : D) (v : V), Rp K F v d → Rp K F' v d
  | .none, _, h => by cases h; exact .non
  | .bool _, _, h => by cases h; exact .bl _
  | .int _, _, h => by cases h; exact .int _
  | .str _, _, h => by cases h; exact .str _
  | .list ds, _, h => by
    cases h with
    | lst h1 h2 => exact .lst (Rd.mono s h1) (RpAll.mono s ds _ h2)
  | .tuple ds, _, h => by
    cases h with
    | tup h1 h2 => exact .tup (SqT.mono s h1) (RpAll.mono s ds _ h2)
  | .dict _, _, h => by cases h
theorem RpAll.mono {F F' : Hp} (s : Same F F') : ∀ (ds : List D) (vs : List V), RpAll K F vs ds → RpAll K F' vs ds
  | [], _, h => by cases h; exact .nil
  | d :: ds, _, h => by
    cases h with
    | cons h1 h2 => exact .cons (Rp.mono s d _ h1) (RpAll.mono s ds _ h2)
end
theorem RpAll.length {F : Hp} : ∀ {vs : List V} {ds : List D}, RpAll K F vs ds → vs.length = ds.length
  | _, _, .nil => rfl
  | _, _, .cons _ t => congrArg (· + 1) (RpAll.length t)
theorem RpAll.get {F : Hp} : ∀ {vs : List V} {ds : List D} {i : Nat} {d : D}, RpAll K F vs ds → ds[i]? = some d → ∃ v, vs[i]? = some v ∧ Rp K F v d
  | _, _, _, _, .nil, e => by simp at e
  | _, _, 0, _, .cons h _, e => by simp at e; subst e; exact ⟨_, rfl, h⟩
  | _, _, i + 1, _, .cons _ t, e => by
    obtain ⟨v, h1, h2⟩ := RpAll.get (i := i) t (by simpa using e)
    exact ⟨v, by simpa using h1, h2⟩
theorem RpAll.get' {F : Hp} : ∀ {vs : List V} {ds : List D} {i : Nat} {v : V}, RpAll K F vs ds → vs[i]? = some v → ∃ d, ds[i]? = some d ∧ Rp K F v d
  | _, _, _, _, .nil, e => by simp at e
  | _, _, 0, _, .cons h _, e => by simp at e; subst e; exact ⟨_, rfl, h⟩
  | _, _, i + 1, _, .cons _ t, e => by
    obtain ⟨v, h1, h2⟩ := RpAll.get' (i := i) t (by simpa using e)
    exact ⟨v, by simpa using h1, h2⟩
theorem RpAll.append {F : Hp} : ∀ {vs ws : List V} {ds es : List D}, RpAll K F vs ds → RpAll K F ws es → RpAll K F (vs ++ ws) (ds ++ es)
  | _, _, _, _, .nil, s => s
  | _, _, _, _, .cons h t, s => .cons h (RpAll.append t s)
theorem RpAll.take {F : Hp} : ∀ {vs : List V} {ds : List D} (n : Nat), RpAll K F vs ds → RpAll K F (vs.take n) (ds.take n)
  | _, _, 0, _ => by simp; exact .nil
  | _, _, n + 1, .nil => by simp; exact .nil
  | _, _, n + 1, .cons h t => by simp; exact .cons h (RpAll.take n t)
theorem RpAll.drop {F : Hp} : ∀ {vs : List V} {ds : List D} (n : Nat), RpAll K F vs ds → RpAll K F (vs.drop n) (ds.drop n)
  | _, _, 0, h => by simpa using h
  | _, _, n + 1, .nil => by simp; exact .nil
  | _, _, n + 1, .cons h t => by simp; exact RpAll.drop n t
theorem RpAll.set {F : Hp} {v : V} {d : D} (hv : Rp K F v d) : ∀ {vs : List V} {ds : List D} (n : Nat), RpAll K F vs ds → RpAll K F (vs.set n v) (ds.set n d)
  | _, _, _, .nil => .nil
  | _, _, 0, .cons _ t => .cons hv t
  | _, _, n + 1, .cons h t => .cons h (RpAll.set hv n t)
theorem RpAll.eraseIdx {F : Hp} : ∀ {vs : List V} {ds : List D} (n : Nat), RpAll K F vs ds → RpAll K F (vs.eraseIdx n) (ds.eraseIdx n)
  | _, _, _, .nil => .nil
  | _, _, 0, .cons _ t => t
  | _, _, n + 1, .cons h t => .cons h (RpAll.eraseIdx n t)
theorem RpAll.dropLast {F : Hp} {vs : List V} {ds : List D} (h : RpAll K F vs ds) : RpAll K F vs.dropLast ds.dropLast := by
  rw [List.dropLast_eq_take, List.dropLast_eq_take, RpAll.length h]
  exact RpAll.take _ h
theorem RpAll.rep {F : Hp} {vs : List V} {ds : List D} (h : RpAll K F vs ds) : ∀ n : Nat, RpAll K F (List.replicate n vs).flatten (List.replicate n ds).flatten
  | 0 => .nil
  | n + 1 => by
    rw [List.replicate_succ, List.replicate_succ, List.flatten_cons, List.flatten_cons]
    exact RpAll.append h (RpAll.rep h n)
end

/-- a slot of the environment, and the value that stands there -/
def SlOk (K : PySem.W.Frag) (B : Bs) (F : Hp) (H : Hp) (v : Option V) : Slot → Prop
  | .no => True
  | .val d => ∃ x, v = some x ∧ Rp K F x d
  | .own ds => ∃ a vs, v = some (.ref a) ∧ H a = some (.lst vs) ∧ F a = none ∧ B.H0 a = none ∧ RpAll K F vs ds
  | .brw ds => ∃ a vs, v = some (.ref a) ∧ B.g = some a ∧ H a = some (.lst vs) ∧ F a = none ∧ RpAll K F vs ds

abbrev svAt (σ : L2.St) (i : Nat) : Option V := (σ[i]?).join
/-- a is where a list stands that a slot may change -/
def MutAt (env : En) (σ : L2.St) (a : Addr) : Prop := ∃ i, isMut (slot env i) = true ∧ svAt σ i = some (.ref a)

structure Rl (K : PySem.W.Frag) (B : Bs) (F : Hp) (env : En) (σ : L2.St) (H : Hp) : Prop where
  fh : Same F H
  f0 : Same B.F0 F
  fresh : ∀ b o, B.H0 b = some o → B.F0 b = none → F b = none
  keep : ∀ b o, B.H0 b = some o → B.g ≠ some b → H b = some o
  gk : ∀ a, B.g = some a → ∃ o, H a = some o
  sl : ∀ i, SlOk K B F H (svAt σ i) (slot env i)
  sep : ∀ i j a, isMut (slot env i) = true → isMut (slot env j) = true → svAt σ i = some (.ref a) → svAt σ j = some (.ref a) → i = j
  len : env.length = σ.length
  nz : ∀ b o u, F b = some (.frz o u) → B.F0 b = some (.frz o u)
theorem nzu {F F0 : Hp} {p : Addr} {x : HO} (h : ∀ b o u, F b = some (.frz o u) → F0 b = some (.frz o u)) (hx : ∀ o u, x ≠ .frz o u) : ∀ b o u, upd F p x b = some (.frz o u) → F0 b = some (.frz o u) := fun b o u e => by
  by_cases hb : b = p
  · subst hb; rw [upd_same] at e; cases e; exact absurd rfl (hx o u)
  · rw [upd_ne hb] at e; exact h b o u e

/-- what a step of an expression leaves -/
structure Stp (K : PySem.W.Frag) (B : Bs) (σ : L2.St) (F : Hp) (env : En) (H : Hp) (F' : Hp) (env' : En) (H' : Hp) : Prop where
  rl : Rl K B F' env' σ H'
  ff : Same F F'
  fr : ∀ b o, H b = some o → ¬ MutAt env σ b → H' b = some o
  mo : ∀ i, isMut (slot env' i) = true → isMut (slot env i) = true
  fz : ∀ b o, H b = some o → F b = none → ¬ MutAt env σ b → F' b = none

section
variable {K : PySem.W.Frag} {B : Bs} {σ : L2.St} {F F' F'' H H' H'' : Hp} {env env' env'' : En}
theorem Stp.refl (r : Rl K B F env σ H) : Stp K B σ F env H F env H := ⟨r, Same.refl _, fun _ _ e _ => e, fun _ h => h, fun _ _ _ e _ => e⟩
theorem MutAt.mono (mo : ∀ i, isMut (slot env' i) = true → isMut (slot env i) = true) {a : Addr} (h : MutAt env' σ a) : MutAt env σ a := let ⟨i, h1, h2⟩ := h; ⟨i, mo i h1, h2⟩
theorem Stp.trans (a : Stp K B σ F env H F' env' H') (b : Stp K B σ F' env' H' F'' env'' H'') : Stp K B σ F env H F'' env'' H'' :=
  ⟨b.rl, a.ff.trans b.ff, fun c o e n => b.fr c o (a.fr c o e n) fun z => n (z.mono a.mo), fun i h => a.mo i (b.mo i h),
    fun c o e f n => b.fz c o (a.fr c o e n) (a.fz c o e f n) fun z => n (z.mono a.mo)⟩

theorem none_of_F (fh : Same F H) {p : Addr} (n : H p = none) : F p = none := fh.free n

theorem SlOk.mono {v : Option V} {s : Slot} (h : SlOk K B F H v s) (ff : Same F F') (hh : ∀ a, isMut s = true → v = some (.ref a) → H' a = H a ∧ F' a = F a) : SlOk K B F' H' v s := by
  cases s with
  | no => trivial
  | val d => obtain ⟨x, e, h⟩ := h; exact ⟨x, e, Rp.mono ff _ _ h⟩
  | own ds => obtain ⟨a, vs, e, h1, h2, h3, h4⟩ := h; obtain ⟨q1, q2⟩ := hh a rfl e; exact ⟨a, vs, e, q1.trans h1, q2.trans h2, h3, RpAll.mono ff _ _ h4⟩
  | brw ds => obtain ⟨a, vs, e, h0, h1, h2, h4⟩ := h; obtain ⟨q1, q2⟩ := hh a rfl e; exact ⟨a, vs, e, h0, q1.trans h1, q2.trans h2, RpAll.mono ff _ _ h4⟩
theorem SlOk.tracked {v : Option V} {s : Slot} {a : Addr} (h : SlOk K B F H v s) (m : isMut s = true) (e : v = some (.ref a)) : ∃ vs, H a = some (.lst vs) ∧ F a = none := by
  cases s with
  | no => simp [isMut] at m
  | val d => simp [isMut] at m
  | own ds => obtain ⟨b, vs, e', h1, h2, _⟩ := h; rw [e] at e'; cases e'; exact ⟨vs, h1, h2⟩
  | brw ds => obtain ⟨b, vs, e', _, h1, h2, _⟩ := h; rw [e] at e'; cases e'; exact ⟨vs, h1, h2⟩

/-- a new object is laid: into the kept part too -/
theorem Rl.laid (r : Rl K B F env σ H) {p : Addr} {o : HO} (n : H p = none) (ho : ∀ x u, o ≠ .frz x u := by intro _ _ h; cases h) : Stp K B σ F env H (upd F p o) env (upd H p o) := by
  have nF := none_of_F r.fh n
  have ff : Same F (upd F p o) := fun b u e => by rw [upd_ne (ne_of_none e nF)]; exact e
  refine ⟨⟨fun b u e => ?_, r.f0.trans ff, fun b u e z => ?_, fun b u e z => ?_, fun a e => ?_, fun i => (r.sl i).mono ff fun a m e => ?_, r.sep, r.len, nzu r.nz ho⟩, ff, fun b u e _ => ?_, fun _ h => h, fun b u e f _ => by rw [upd_ne (ne_of_none e n)]; exact f⟩
  · by_cases hb : b = p
    · subst hb; rw [upd_same] at e ⊢; exact e
    · rw [upd_ne hb] at e ⊢; exact r.fh b u e
  · by_cases hb : b = p
    · subst hb
      by_cases hg : B.g = some b
      · obtain ⟨o', q⟩ := r.gk b hg; rw [n] at q; cases q
      · have q := r.keep b u e hg; rw [n] at q; cases q
    · rw [upd_ne hb]; exact r.fresh b u e z
  · have q := r.keep b u e z
    rw [upd_ne (ne_of_none q n)]; exact q
  · obtain ⟨o', q⟩ := r.gk a e
    exact ⟨o', by rw [upd_ne (ne_of_none q n)]; exact q⟩
  · obtain ⟨vs, q, q'⟩ := (r.sl i).tracked m e
    have ne := ne_of_none q n
    exact ⟨by rw [upd_ne ne], by rw [upd_ne ne]⟩
  · rw [upd_ne (ne_of_none e n)]; exact e
/-- .. or not into the kept part -/
theorem Rl.laidU (r : Rl K B F env σ H) {p : Addr} {o : HO} (n : H p = none) : Stp K B σ F env H F env (upd H p o) := by
  refine ⟨⟨fun b u e => ?_, r.f0, r.fresh, fun b u e z => ?_, fun a e => ?_, fun i => (r.sl i).mono (Same.refl _) fun a m e => ?_, r.sep, r.len, r.nz⟩, Same.refl _, fun b u e _ => ?_, fun _ h => h, fun _ _ _ f _ => f⟩
  · have q := r.fh b u e
    rw [upd_ne (ne_of_none q n)]; exact q
  · have q := r.keep b u e z
    rw [upd_ne (ne_of_none q n)]; exact q
  · obtain ⟨o', q⟩ := r.gk a e
    exact ⟨o', by rw [upd_ne (ne_of_none q n)]; exact q⟩
  · obtain ⟨vs, q, q'⟩ := (r.sl i).tracked m e
    exact ⟨by rw [upd_ne (ne_of_none q n)], rfl⟩
  · rw [upd_ne (ne_of_none e n)]; exact e
/-- a tracked object that is no slot's is taken into the kept part -/
theorem Rl.take (r : Rl K B F env σ H) {p : Addr} {o : HO} (e : H p = some o) (h0 : B.H0 p = none) (nF : F p = none) (nm : ¬ MutAt env σ p) (ho : ∀ x u, o ≠ .frz x u) : Rl K B (upd F p o) env σ H := by
  have ff : Same F (upd F p o) := fun b u e => by rw [upd_ne (ne_of_none e nF)]; exact e
  refine ⟨fun b u q => ?_, r.f0.trans ff, fun b u q z => ?_, r.keep, r.gk, fun i => (r.sl i).mono ff fun a m q => ⟨rfl, ?_⟩, r.sep, r.len, nzu r.nz ho⟩
  · by_cases hb : b = p
    · subst hb; rw [upd_same] at q; rw [← q]; exact e
    · rw [upd_ne hb] at q; exact r.fh b u q
  · by_cases hb : b = p
    · subst hb; rw [h0] at q; cases q
    · rw [upd_ne hb]; exact r.fresh b u q z
  · by_cases hb : a = p
    · subst hb; exact absurd ⟨i, m, q⟩ nm
    · rw [upd_ne hb]

theorem slot_set_same {i : Nat} {s : Slot} (h : i < env.length) : slot (env.set i s) i = s := by
  unfold slot
  rw [List.getD_eq_getElem?_getD, List.getElem?_set_self h]; rfl
theorem slot_set_ne {i j : Nat} {s : Slot} (h : j ≠ i) : slot (env.set i s) j = slot env j := by
  unfold slot
  rw [List.getD_eq_getElem?_getD, List.getElem?_set_ne (Ne.symm h), ← List.getD_eq_getElem?_getD]
theorem slot_lt {i : Nat} (h : slot env i ≠ .no) : i < env.length := by
  apply Classical.byContradiction
  intro n
  apply h
  unfold slot
  rw [List.getD_eq_getElem?_getD, List.getElem?_eq_none (by omega)]; rfl
theorem mut_lt {i : Nat} (h : isMut (slot env i) = true) : i < env.length := slot_lt fun e => by rw [e] at h; cases h

theorem rpl (h : H' a = some (.lst vs)) (hs : RpAll K F' vs ds) (hf : F' a = some (.lst vs)) : Rp K F' (.ref a) (.list ds) := .lst (.inl hf) hs

/-- an own list is kept from now on -/
theorem Rl.freeze (r : Rl K B F env σ H) {i : Nat} {ds : List D} (hs : slot env i = .own ds) : ∃ a F', svAt σ i = some (.ref a) ∧ Stp K B σ F env H F' (env.set i (.val (.list ds))) H ∧ Rp K F' (.ref a) (.list ds) := by
  have h := r.sl i
  rw [hs] at h
  obtain ⟨a, vs, e, h1, h2, h3, h4⟩ := h
  have hl : i < env.length := slot_lt (by rw [hs]; intro z; cases z)
  have mi : isMut (slot env i) = true := by rw [hs]; rfl
  have ff : Same F (upd F a (.lst vs)) := fun b u e => by rw [upd_ne (ne_of_none e h2)]; exact e
  have dp : Rp K (upd F a (.lst vs)) (.ref a) (.list ds) := .lst (.inl upd_same) (RpAll.mono ff _ _ h4)
  have mo : ∀ j, isMut (slot (env.set i (.val (.list ds))) j) = true → j ≠ i ∧ isMut (slot env j) = true := fun j m => by
    by_cases hj : j = i
    · subst hj; rw [slot_set_same hl] at m; cases m
    · rw [slot_set_ne hj] at m; exact ⟨hj, m⟩
  refine ⟨a, upd F a (.lst vs), e, ⟨⟨fun b u q => ?_, r.f0.trans ff, fun b u q z => ?_, r.keep, r.gk, fun j => ?_, fun j k b m1 m2 => r.sep j k b (mo j m1).2 (mo k m2).2, by rw [List.length_set]; exact r.len, nzu r.nz (fun _ _ z => by cases z)⟩, ff, fun b u q _ => q, fun j m => (mo j m).2, fun b u q f n => by rw [upd_ne (fun z => n ⟨i, mi, by rw [z]; exact e⟩)]; exact f⟩, dp⟩
  · by_cases hb : b = a
    · subst hb; rw [upd_same] at q; rw [← q]; exact h1
    · rw [upd_ne hb] at q; exact r.fh b u q
  · by_cases hb : b = a
    · subst hb; rw [h3] at q; cases q
    · rw [upd_ne hb]; exact r.fresh b u q z
  · by_cases hj : j = i
    · subst hj; rw [slot_set_same hl]; exact ⟨_, e, dp⟩
    · rw [slot_set_ne hj]
      refine (r.sl j).mono ff fun b m q => ⟨rfl, ?_⟩
      by_cases hb : b = a
      · subst hb; exact absurd (r.sep j i b m mi q e) hj
      · rw [upd_ne hb]
end
end PD

/-! PD3: from Python's text to the small language. -/
namespace PD
open PySem PySem.Spec PyProof.Rows L2

structure Gm where
  /-- a def's name, its number, its parameters, whether its first argument is a list that it changes -/
  defs : List (Str × Nat × List Str × Bool)
  cons : List (Str × D)
  blts : List Str
  /-- calls by names: the def, the names, which name's value each parameter gets -/
  kws : List (Str × List Str × List Nat) := []
def kwFind (f : Str) (ks : List Str) : List (Str × List Str × List Nat) → Option (List Nat)
  | [] => none
  | (g, js, perm) :: r => if g = f ∧ js = ks then some perm else kwFind f ks r
theorem kwFind_mem {f : Str} {ks : List Str} {perm : List Nat} : ∀ {l : List (Str × List Str × List Nat)}, kwFind f ks l = some perm → (f, ks, perm) ∈ l
  | [], h => by cases h
  | (g, js, p) :: r, h => by
    rw [kwFind] at h
    split at h
    · rename_i c; cases h; rw [c.1, c.2]; exact List.mem_cons_self
    · exact List.mem_cons_of_mem _ (kwFind_mem h)

def ixOf (x : Str) : List Str → Option Nat
  | [] => none
  | y :: r => if x = y then some 0 else (ixOf x r).map (· + 1)
theorem ixOf_get {x : Str} : ∀ {l : List Str} {i : Nat}, ixOf x l = some i → l[i]? = some x
  | [], _, h => by cases h
  | y :: r, i, h => by
    unfold ixOf at h
    split at h
    · rename_i e; cases h; rw [e]; rfl
    · cases e : ixOf x r with
      | none => rw [e] at h; cases h
      | some j => rw [e] at h; cases h; simpa using ixOf_get e

def visB (sc : Scope) (x : Str) : Bool := match sc.names.lookup x with
  | some .local => true
  | some .cell => true
  | some .free => true
  | _ => false
def locB (sc : Scope) (x : Str) : Bool := match sc.names.lookup x with
  | some .local => true
  | some .cell => true
  | _ => false
def glB (sc : Scope) (x : Str) : Bool := match sc.names.lookup x with
  | some .globalImplicit => true
  | _ => false
theorem vis_of {sc : Scope} {x : Str} (h : visB sc x = true) : Vis sc x := by
  unfold visB at h
  split at h
  · rename_i e; exact .inl e
  · rename_i e; exact .inr (.inl e)
  · rename_i e; exact .inr (.inr e)
  · cases h
theorem loc_of {sc : Scope} {x : Str} (h : locB sc x = true) : Loc sc x := by
  unfold locB at h
  split at h
  · rename_i e; exact .inl e
  · rename_i e; exact .inr e
  · cases h
theorem gl_of {sc : Scope} {x : Str} (h : glB sc x = true) : sc.names.lookup x = some .globalImplicit := by
  unfold glB at h
  split at h
  · rename_i e; exact e
  · cases h

def oddName (x : Str) : Bool := (x == ("__debug__" : Str)) || (x == ("__classdict__" : Str)) || (x == ("__name__" : Str))
def notStar : Expr → Bool
  | .Starred _ _ => false
  | _ => true
def notSlice : Expr → Bool
  | .Slice _ _ _ _ => false
  | _ => true
def notSet : Expr → Bool
  | .Set _ _ _ => false
  | _ => true
def notCall : Expr → Bool
  | .Call _ _ _ _ => false
  | _ => true
def cOp : Operator → Option Pr
  | .Add => some .add
  | .Sub => some .sub
  | .Mult => some .mul
  | .FloorDiv => some .fdiv
  | .Mod => some .mod
  | .Pow => some .pow
  | _ => none
def cCmp : CmpOp → Option Pr
  | .Eq => some .eq
  | .NotEq => some .ne
  | .Lt => some .lt
  | .LtE => some .le
  | .Gt => some .gt
  | .GtE => some .ge
  | .In => some .isin
  | .NotIn => some .notin
  | .Is => some .is
  | .IsNot => some .isnot
/-- a built-in of one argument -/
def cB1 (x : Str) : Option Pr :=
  if x = "len" then some .len else if x = "int" then some .int else if x = "abs" then some .abs else if x = "sum" then some .sum
  else if x = "all" then some .all else if x = "any" then some .any else if x = "sorted" then some .sorted else if x = "list" then some .list
  else if x = "tuple" then some .tuple else if x = "max" then some .maxL else if x = "min" then some .minL else if x = "repr" then some .repr else none
def cB2 (x : Str) : Option Pr :=
  if x = "max" then some .max2 else if x = "min" then some .min2 else none
def cTy (x : Str) : Option String :=
  if x = "int" then some "int" else if x = "bool" then some "bool" else if x = "str" then some "str" else if x = "list" then some "list"
  else if x = "tuple" then some "tuple" else if x = "dict" then some "dict" else none

section
variable (Γ : Gm) (N : List Str)
def bltOk (sc : Scope) (x : Str) : Bool := glB sc x && Γ.blts.contains x && !oddName x
def cName (sc : Scope) (x : Str) : Option Ex :=
  if oddName x then none
  else if visB sc x then (ixOf x N).map .var
  else if glB sc x then (Γ.cons.lookup x).map .con
  else none
/-- the names' places of a comprehension's own ones -/
def ownOf (names : List (Str × NameKind)) : Option (List (Str × Nat)) :=
  match names with
  | [] => some []
  | (x, k) :: r => if k = .local ∨ k = .cell then
      (match ixOf x N with
        | some i => (ownOf r).map ((x, i) :: ·)
        | none => ownOf r)
      else ownOf r
mutual
def cTg (sc : Scope) : Nat → Expr → Option Tg
  | 0, _ => none
  | n + 1, e => match e with
    | .Name x _ => if locB sc x && !oddName x then (ixOf x N).map .nm else none
    | .Tuple ts _ _ => (cTgs sc n ts).map .tp
    | _ => none
def cTgs (sc : Scope) : Nat → List Expr → Option (List Tg)
  | 0, _ => none
  | _ + 1, [] => some []
  | n + 1, e :: r => (cTg sc n e).bind fun t => (cTgs sc n r).map (t :: ·)
end
end
/-- a comprehension's names as they should be -/
def blkB (N : List Str) (sc scope : Scope) (own : List (Str × Nat)) : Bool :=
  decide (scope.kind = .function) && (scope.names.all fun y => decide (scope.names.lookup y.1 = some y.2)) && (own.all fun p => decide (N[p.2]? = some p.1)) &&
  (scope.names.all fun y => !decide (y.2 = .free) || decide (sc.names.lookup y.1 = some .cell) || decide (sc.names.lookup y.1 = some .free)) &&
  (scope.names.all fun y => !(decide (y.2 = .local) || decide (y.2 = .cell)) || (own.map (·.1)).contains y.1 || !N.contains y.1)
theorem blk_of {N : List Str} {sc scope : Scope} {own : List (Str × Nat)} (h : blkB N sc scope own = true) : BlkOk N sc scope own := by
  unfold blkB at h
  simp only [Bool.and_eq_true, List.all_eq_true, Bool.or_eq_true, Bool.not_eq_true', decide_eq_true_eq, decide_eq_false_iff_not] at h
  obtain ⟨⟨⟨⟨h1, h2⟩, h3⟩, h4⟩, h5⟩ := h
  refine ⟨h1, h2, h3, fun y hy e => ?_, fun y hy e => ?_⟩
  · rcases h4 y hy with (q | q) | q
    · exact absurd e q
    · exact .inl q
    · exact .inr q
  · rcases h5 y hy with (q | q) | q
    · rcases e with e | e
      · rw [e] at q; simp at q
      · rw [e] at q; simp at q
    · exact .inl (by simpa using q)
    · exact .inr (by simpa using q)

section
variable (Γ : Gm) (N : List Str)
def isTupE : Expr → Bool
  | .Tuple _ _ _ => true
  | _ => false
def cIK (sc : Scope) (tg iter : Expr) : IK × List Expr :=
  match iter with
  | .Call (.Name f _) [a] [] _ => if f = "range" ∧ bltOk Γ sc f = true then (.rng1, [a]) else if f = "enumerate" ∧ bltOk Γ sc f = true ∧ isTupE tg = true then (.enum, [a]) else (.seq, [iter])
  | .Call (.Name f _) [a, b] [] _ => if f = "range" ∧ bltOk Γ sc f = true then (.rng2, [a, b]) else if f = "zip" ∧ bltOk Γ sc f = true ∧ isTupE tg = true then (.zip, [a, b]) else (.seq, [iter])
  | _ => (.seq, [iter])
mutual
def tgIn (l : List Nat) : Tg → Bool
  | .nm i => l.contains i
  | .tp ts => tgsIn l ts
def tgsIn (l : List Nat) : List Tg → Bool
  | [] => true
  | t :: ts => tgIn l t && tgsIn l ts
end
/-- what may stand as a test -/
def tstB : Nat → Expr → Bool
  | 0, _ => false
  | n + 1, e => match e with
    | .BoolOp _ es _ => es.all (tstB n)
    | .UnaryOp .Not a _ => tstB n a
    | .UnaryOp _ _ _ => false
    | .Compare _ _ _ _ => true
    | .Name _ _ => true
    | .Call _ _ _ _ => true
    | .Subscript _ _ _ => true
    | .Constant _ _ _ => true
    | _ => false
mutual
def cE : Nat → Scope → Expr → Option Ex
  | 0, _, _ => none
  | n + 1, sc, e => match e with
    | .Constant c _ _ => match c with
      | .int i => some (.con (.int i))
      | .bool b => some (.con (.bool b))
      | .str x => some (.con (.str x))
      | .none => some (.con .none)
      | _ => none
    | .Name x _ => cName Γ N sc x
    | .Tuple es _ _ => if decide (es.length ≤ 1000) then (cL n sc es).map .tup else none
    | .List es _ => if decide (es.length ≤ 1000) then (cL n sc es).map .lst else none
    | .BinOp a op b _ => (cOp op).bind fun o => (cE n sc a).bind fun pa => (cE n sc b).map fun pb => .prm o [pa, pb]
    | .UnaryOp .USub a _ => (cE n sc a).map fun pa => .prm .neg [pa]
    | .UnaryOp .Not a _ => if tstB n a then (cE n sc a).map .not else none
    | .Compare a [op] [b] _ => if notSet b then (cCmp op).bind fun o => (cE n sc a).bind fun pa => (cE n sc b).map fun pb => .prm o [pa, pb] else none
    | .Compare a [op, op'] [b, c] _ => if notSet b && notSet c then (cCmp op).bind fun o => (cCmp op').bind fun o' => (cE n sc a).bind fun pa => (cE n sc b).bind fun pb => (cE n sc c).map fun pc => .chain o o' pa pb pc else none
    | .BoolOp .And es _ => if 2 ≤ es.length then cAnd n sc es else none
    | .BoolOp .Or es _ => if 2 ≤ es.length then cOr n sc es else none
    | .IfExp c a b _ => if !tstB n c then none else (cE n sc c).bind fun pc => (cE n sc a).bind fun pa => (cE n sc b).map fun pb => .ite pc pa pb
    | .Subscript a (.Slice lo hi none _) _ => (cE n sc a).bind fun pa => match lo, hi with
      | none, none => some (.prm (.sl false false) [pa])
      | some l, none => (cE n sc l).map fun pl => .prm (.sl true false) [pa, pl]
      | none, some h => (cE n sc h).map fun ph => .prm (.sl false true) [pa, ph]
      | some l, some h => (cE n sc l).bind fun pl => (cE n sc h).map fun ph => .prm (.sl true true) [pa, pl, ph]
    | .Subscript a b _ => if notSlice b then (cE n sc a).bind fun pa => (cE n sc b).map fun pb => .prm .ix [pa, pb] else none
    | .Call (.Name f _) es [] _ =>
      if !glB sc f || oddName f then none else match Γ.defs.lookup f with
        | some (i, ps, m) => if decide (es.length = ps.length) then
            (if m then (match es with
              | .Name g _ :: r => (cName Γ N sc g).bind fun pg => match pg with
                | .var j => (cL n sc r).map fun ps => .callg i j ps
                | _ => none
              | _ => none)
            else (cL n sc es).map fun ps => .call i [] ps) else none
        | none => if Γ.blts.contains f then (match es with
            | [a] => (match a with
              | .Call (.Name r _) [b] [] _ => if f = "list" ∧ r = "range" ∧ bltOk Γ sc r = true then (cE n sc b).map fun pb => .prm .lrange [pb] else (cB1 f).bind fun o => (cE n sc a).map fun pa => .prm o [pa]
              | _ => (cB1 f).bind fun o => (cE n sc a).map fun pa => .prm o [pa])
            | [a, b] => if f = "isinstance" then (match b with
                | .Name t _ => if bltOk Γ sc t then (cTy t).bind fun T => (cE n sc a).map fun pa => .prm (.isi T) [pa] else none
                | _ => none)
              else (cB2 f).bind fun o => (cE n sc a).bind fun pa => (cE n sc b).map fun pb => .prm o [pa, pb]
            | _ => none) else none
    | .Call (.Name f _) [] (kw :: kws) _ =>
      if !glB sc f || oddName f || !(kw :: kws).all (·.arg.isSome) then none else match Γ.defs.lookup f with
        | some (i, ps, false) => (match kwFind f ((kw :: kws).filterMap (·.arg)) Γ.kws with
            | some perm => if perm.isEmpty then none else (cL n sc ((kw :: kws).map (·.value))).map fun qs => .call i perm qs
            | none => none)
        | _ => none
    | .Call (.Attribute o m apos) [] [] cpos => if notCall o && (apos.endLine == cpos.line) && decide (m = "bit_length") then (cE n sc o).map fun po => .prm .mbits [po] else none
    | .ListComp elt [⟨tg, iter, ifs, 0⟩] scope _ => (ownOf N scope.names).bind fun own =>
        if blkB N sc scope own && notSet iter && ifs.all (tstB n) && decide (ifs.length ≤ 1) then
          (cL n sc (cIK Γ sc tg iter).2).bind fun its => (cTg N scope n tg).bind fun t => (cL n (relS scope sc) ifs).bind fun qs => (cE n (relS scope sc) elt).bind fun pe =>
            if tgIn (own.map (·.2)) t then some (.comp (own.map (·.2)) t (cIK Γ sc tg iter).1 its qs pe) else none
        else none
    | _ => none
def cL : Nat → Scope → List Expr → Option (List Ex)
  | 0, _, _ => none
  | _ + 1, _, [] => some []
  | n + 1, sc, e :: r => if notStar e then (cE n sc e).bind fun p => (cL n sc r).map (p :: ·) else none
def cAnd : Nat → Scope → List Expr → Option Ex
  | 0, _, _ => none
  | _ + 1, _, [] => none
  | n + 1, sc, [e] => cE n sc e
  | n + 1, sc, e :: r => (cE n sc e).bind fun p => (cAnd n sc r).map fun q => .and p q
def cOr : Nat → Scope → List Expr → Option Ex
  | 0, _, _ => none
  | _ + 1, _, [] => none
  | n + 1, sc, [e] => cE n sc e
  | n + 1, sc, e :: r => (cE n sc e).bind fun p => (cOr n sc r).map fun q => .or p q
end
end
end PD

/-! PD4: the readings, and the primitives. -/
namespace PD
open PySem PySem.Spec PyProof.Rows L2

/-- an operand: a kept value, or a slot's own list -/
def OpOk (K : PySem.W.Frag) (F : Hp) (σ : L2.St) (v : V) : Op → Prop
  | .inl d => Rp K F v d
  | .inr i => svAt σ i = some v
/-- a value to be looked at now -/
def Bo (K : PySem.W.Frag) (F H : Hp) (v : V) (d : D) : Prop := Rp K F v d ∨ ∃ a vs ds, v = .ref a ∧ d = .list ds ∧ H a = some (.lst vs) ∧ RpAll K F vs ds
section
variable {K : PySem.W.Frag} {B : Bs} {σ : L2.St} {F F' F'' H H' H'' : Hp} {env env' env'' : En}
theorem Bo.rp {v : V} {d : D} (fh : Same F H) (h : Bo K F H v d) : Rp K H v d := by
  rcases h with h | ⟨a, vs, ds, rfl, rfl, h1, h2⟩
  · exact Rp.mono fh _ _ h
  · exact .lst (.inl h1) (RpAll.mono fh _ _ h2)
theorem Bo.lst {v : V} {ds : List D} (fh : Same F H) (h : Bo K F H v (.list ds)) : ∃ a vs, v = .ref a ∧ Rd H a (.lst vs) ∧ RpAll K F vs ds := by
  rcases h with h | ⟨a, vs, ds', rfl, e, h1, h2⟩
  · cases h with
    | lst h1 h2 => exact ⟨_, _, rfl, Rd.mono fh h1, h2⟩
  · cases e; exact ⟨a, vs, rfl, .inl h1, h2⟩
theorem Bo.tup {v : V} {ds : List D} (fh : Same F H) (h : Bo K F H v (.tuple ds)) : ∃ a vs, v = .ref a ∧ SqT K H a vs ∧ RpAll K F vs ds ∧ SqT K F a vs := by
  rcases h with h | ⟨a, vs, ds', rfl, e, h1, h2⟩
  · cases h with
    | tup h1 h2 => exact ⟨_, _, rfl, SqT.mono fh h1, h2, h1⟩
  · cases e
theorem Bo.int {v : V} {i : Int} (h : Bo K F H v (.int i)) : v = .int i := by
  rcases h with h | ⟨a, vs, ds', rfl, e, h1, h2⟩
  · cases h; rfl
  · cases e
theorem Bo.bool {v : V} {b : Bool} (h : Bo K F H v (.bool b)) : v = .bl b := by
  rcases h with h | ⟨a, vs, ds', rfl, e, h1, h2⟩
  · cases h; rfl
  · cases e
theorem Bo.str {v : V} {x : Str} (h : Bo K F H v (.str x)) : v = .str x := by
  rcases h with h | ⟨a, vs, ds', rfl, e, h1, h2⟩
  · cases h; rfl
  · cases e
theorem Bo.none {v : V} (h : Bo K F H v .none) : v = .non := by
  rcases h with h | ⟨a, vs, ds', rfl, e, h1, h2⟩
  · cases h; rfl
  · cases e
theorem Rl.bo (r : Rl K B F env σ H) {v : V} {o : Op} {d : D} (h : OpOk K F σ v o) (e : rs env o = some d) : Bo K F H v d := by
  cases o with
  | inl d' =>
    have e' : d' = d := by simpa [rs] using e
    subst e'
    exact .inl h
  | inr i =>
    have hs := r.sl i
    have h : svAt σ i = some v := h
    have e : (match slot env i with | .own ds => some (.list ds) | .brw ds => some (.list ds) | _ => none) = some d := e
    rw [h] at hs
    cases q : slot env i with
    | no => rw [q] at e; cases e
    | val d => rw [q] at e; cases e
    | own ds =>
      rw [q] at e hs; cases e
      obtain ⟨a, vs, e1, h1, h2, h3, h4⟩ := hs
      cases e1
      exact .inr ⟨a, vs, ds, rfl, rfl, h1, h4⟩
    | brw ds =>
      rw [q] at e hs; cases e
      obtain ⟨a, vs, e1, h0, h1, h2, h4⟩ := hs
      cases e1
      exact .inr ⟨a, vs, ds, rfl, rfl, h1, h4⟩
theorem OpOk.mono {v : V} {o : Op} (ff : Same F F') (h : OpOk K F σ v o) : OpOk K F' σ v o := by
  cases o with
  | inl d => exact Rp.mono ff _ _ h
  | inr i => exact h
end
/-- values and their data -/
abbrev BoL (K : PySem.W.Frag) (F H : Hp) : List V → List D → Prop := Paired (Bo K F H)
abbrev OpL (K : PySem.W.Frag) (F : Hp) (σ : L2.St) : List V → List Op → Prop := Paired (OpOk K F σ)
section
variable {K : PySem.W.Frag} {B : Bs} {σ : L2.St} {F F' F'' H H' H'' : Hp} {env env' env'' : En}
theorem Rl.boL (r : Rl K B F env σ H) : ∀ {vs : List V} {os : List Op} {ds : List D}, OpL K F σ vs os → rsL env os = some ds → BoL K F H vs ds
  | _, _, _, .nil, e => by simp [rsL] at e; subst e; exact .nil
  | _, _, _, .cons (b := o) h t, e => by
    unfold rsL at e
    cases q : rs env o with
    | none => rw [q] at e; cases e
    | some d =>
      rw [q] at e
      simp only [Option.bind_some, Option.map_eq_some_iff] at e
      obtain ⟨ds', e1, rfl⟩ := e
      exact .cons (r.bo h q) (r.boL t e1)
end

section
variable (K : PySem.W.Frag) (B : Bs)
/-- a primitive's reading, by values -/
def rP (p : Pr) : List V → Hp → VK → Prop := fun vs H Q => ∃ σ F env ds d, Rl K B F env σ H ∧ BoL K F H vs ds ∧ pr p ds = some d ∧ ∀ v F' H', Stp K B σ F env H F' env H' → Rp K F' v d → Q v H'
abbrev rP1 (p : Pr) : V → Hp → VK → Prop := fun x H Q => rP K B p [x] H Q
abbrev rP2 (p : Pr) : R2 := fun x y H Q => rP K B p [x, y] H Q
variable (C : Nat → List D → Option (D × List D))
/-- an expression's reading -/
def tE (p : Ex) : TE := fun σ H Q => ∃ F env, Rl K B F env σ H ∧ ∃ d env', ev C p env = some (d, env') ∧ ∀ v F' H', Stp K B σ F env H F' env' H' → Rp K F' v d → Q v H'
/-- .. as an operand -/
def tO (p : Ex) : TE := fun σ H Q => ∃ F env, Rl K B F env σ H ∧ ∃ o env', opd p (ev C p) env = some (o, env') ∧ ∀ v F' H', Stp K B σ F env H F' env' H' → OpOk K F' σ v o → Q v H'
/-- .. as a test -/
def tT (p : Ex) : TT := fun σ H Q => ∃ F env, Rl K B F env σ H ∧ ∃ b env', ev C p env = some (.bool b, env') ∧ ∀ F' H', Stp K B σ F env H F' env' H' → Q b H'
/-- .. as one that makes a list -/
def tA (p : Ex) : TE := fun σ H Q => ∃ F env, Rl K B F env σ H ∧ ∃ ds env', ev C p env = some (.list ds, env') ∧ ∀ a vs F' H', Stp K B σ F env H F' env' H' → RpAll K F' vs ds → H' a = none → Q (.ref a) (upd H' a (.lst vs))
/-- arguments -/
def tL (ps : List Ex) : TA := fun σ H Q => ∃ F env, Rl K B F env σ H ∧ ∃ ds env', evL C ps env = some (ds, env') ∧ ∀ vs F' H', Stp K B σ F env H F' env' H' → RpAll K F' vs ds → Q vs H'
def tBs (ps : List Ex) : TA := fun σ H Q => ∃ F env, Rl K B F env σ H ∧ ∃ os env', evB C ps env = some (os, env') ∧ ∀ vs F' H', Stp K B σ F env H F' env' H' → OpL K F' σ vs os → Q vs H'
end

/-! ### weakening -/
section
variable {X : Cx}
theorem PE.imp {e : Expr} {t t' : TE} (h : PE X e t) (w : ∀ σ H Q, t' σ H Q → t σ H Q) : PE X e t' := ⟨fun pins s σ H Q I q => h.run pins s σ H Q I (w σ H Q q)⟩
theorem PT.imp {e : Expr} {t t' : TT} (h : PT X e t) (w : ∀ σ H Q, t' σ H Q → t σ H Q) : PT X e t' := ⟨fun pins s σ H Q I q => h.run pins s σ H Q I (w σ H Q q)⟩
theorem PA.imp {es : List Expr} {t t' : TA} (h : PA X es t) (w : ∀ σ H Q, t' σ H Q → t σ H Q) : PA X es t' := ⟨fun pos pins s σ H Q I q => h.run pos pins s σ H Q I (w σ H Q q)⟩
end

/-! ### the primitives -/
section
variable {X : Cx} {B : Bs}
/-- a plain answer -/
theorem fin0 {K : PySem.W.Frag} {σ : L2.St} {F H : Hp} {env : En} {d : D} {v : V} {Q : VK} (r : Rl K B F env σ H) (q : ∀ v F' H', Stp K B σ F env H F' env H' → Rp K F' v d → Q v H') (h : Rp K F v d) : Q v H := q v F H (Stp.refl r) h
theorem finL {K : PySem.W.Frag} {σ : L2.St} {F H : Hp} {env : En} {ds : List D} {vs : List V} {Q : VK} (r : Rl K B F env σ H) (q : ∀ v F' H', Stp K B σ F env H F' env H' → Rp K F' v (.list ds) → Q v H') (h : RpAll K F vs ds) : ∀ p, H p = none → Q (.ref p) (upd H p (.lst vs)) := fun p n =>
  let s := r.laid (o := .lst vs) n
  q _ _ _ s (.lst (.inl upd_same) (RpAll.mono s.ff _ _ h))
theorem finT {K : PySem.W.Frag} {σ : L2.St} {F H : Hp} {env : En} {ds : List D} {vs : List V} {Q : VK} (r : Rl K B F env σ H) (q : ∀ v F' H', Stp K B σ F env H F' env H' → Rp K F' v (.tuple ds) → Q v H') (h : RpAll K F vs ds) : ∀ p, H p = none → Q (.ref p) (upd H p (.tup vs)) := fun p n =>
  let s := r.laid (o := .tup vs) n
  q _ _ _ s (.tup (.inl (.inl upd_same)) (RpAll.mono s.ff _ _ h))
theorem sz_le {n : Nat} (h : sz n = true) : n ≤ sizeLine := Nat.le_trans (of_decide_eq_true h) (by decide)
theorem sz_lt {n : Nat} (h : sz n = true) : n < sizeLine := Nat.lt_of_le_of_lt (of_decide_eq_true h) (by decide)

end
end PD

/-! PD5: the primitives hold. -/
namespace PD
open PySem PySem.Spec PyProof.Rows L2
section
variable {X : Cx} {B : Bs}
theorem one {K : PySem.W.Frag} {F H : Hp} {x : V} {ds : List D} (h : BoL K F H [x] ds) : ∃ a, ds = [a] ∧ Bo K F H x a := by
  cases h with
  | cons h t => cases t; exact ⟨_, rfl, h⟩
theorem two {K : PySem.W.Frag} {F H : Hp} {x y : V} {ds : List D} (h : BoL K F H [x, y] ds) : ∃ a b, ds = [a, b] ∧ Bo K F H x a ∧ Bo K F H y b := by
  cases h with
  | cons h t =>
    obtain ⟨b, rfl, hb⟩ := one t
    exact ⟨_, b, rfl, h, hb⟩
/-- two values under a primitive -/
theorem rP2_in {K : PySem.W.Frag} {p : Pr} {x y : V} {H : Hp} {Q : VK} (h : rP K B p [x, y] H Q) : ∃ σ F env a b d, Rl K B F env σ H ∧ Bo K F H x a ∧ Bo K F H y b ∧ pr2 p a b = some d ∧ ∀ v F' H', Stp K B σ F env H F' env H' → Rp K F' v d → Q v H' := by
  obtain ⟨σ, F, env, ds, d, r, hb, hp, q⟩ := h
  obtain ⟨a, b, rfl, ha, hb⟩ := two hb
  exact ⟨σ, F, env, a, b, d, r, ha, hb, hp, q⟩
theorem rP1_in {K : PySem.W.Frag} {p : Pr} {x : V} {H : Hp} {Q : VK} (h : rP K B p [x] H Q) : ∃ σ F env a d, Rl K B F env σ H ∧ Bo K F H x a ∧ pr1 p a = some d ∧ ∀ v F' H', Stp K B σ F env H F' env H' → Rp K F' v d → Q v H' := by
  obtain ⟨σ, F, env, ds, d, r, hb, hp, q⟩ := h
  obtain ⟨a, rfl, ha⟩ := one hb
  exact ⟨σ, F, env, a, d, r, ha, hp, q⟩

theorem cat_rd : OpR X (binaryOp .Add) (fun x y H Q => ∃ a b xs ys, x = .ref a ∧ y = .ref b ∧ Rd H a (.lst xs) ∧ Rd H b (.lst ys) ∧ xs.length + ys.length ≤ sizeLine ∧ ∀ p, H p = none → Q (.ref p) (upd H p (.lst (xs ++ ys)))) := by
  intro pins s σ H x y v u Q I rx ry h
  obtain ⟨a, b, xs, ys, rfl, rfl, h1, h2, hz, q⟩ := h
  cases rx; cases ry
  obtain ⟨z1, i1, n1, r1, e1⟩ := h1.ok I.hok
  obtain ⟨z2, i2, n2, r2, e2⟩ := h2.ok I.hok
  have l1 := r1.length
  have l2 := r2.length
  refine PySem.P.add_list e1 e2 ?_ (by rw [List.size_toArray, List.size_toArray]; omega)
  have ea : i1.toArray ++ i2.toArray = (i1 ++ i2).toArray := by simp
  rw [ea]
  exact ⟨.ref _, _, I.lnew (t' := s.toks) (r1.append r2) (by rw [List.length_append]; omega), rfl, q _ I.fresh⟩
theorem op_addP : OpR X (binaryOp .Add) (rP2 X.K B .add) := by
  intro pins s σ H x y v u Q I rx ry h
  obtain ⟨σ', F, env, a, b, d, r, ha, hb, hp, q⟩ := rP2_in h
  have hp : qAdd a b = some d := hp
  unfold qAdd at hp
  split at hp
  · cases hp
    exact op_add pins s σ H x y v u Q I rx ry ⟨_, _, ha.int, hb.int, fin0 r q (.int _)⟩
  · split at hp
    · rename_i hz
      cases hp
      obtain ⟨a1, vs1, rfl, h1, g1⟩ := ha.lst r.fh
      obtain ⟨a2, vs2, rfl, h2, g2⟩ := hb.lst r.fh
      refine cat_rd pins s σ H _ _ v u Q I rx ry ⟨_, _, _, _, rfl, rfl, h1, h2, ?_, finL r q (RpAll.append g1 g2)⟩
      have := sz_le hz
      rw [RpAll.length g1, RpAll.length g2]; exact this
    · cases hp
  · split at hp
    · rename_i hz
      cases hp
      obtain ⟨a1, vs1, rfl, h1, g1, k1⟩ := ha.tup r.fh
      obtain ⟨a2, vs2, rfl, h2, g2, k2⟩ := hb.tup r.fh
      refine op_catA pins s σ H _ _ v u Q I rx ry ⟨_, _, vs1, vs2, rfl, rfl, h1, h2, ?_, fun e => ?_, fun n e => ?_, fun _ _ => finT r q (RpAll.append g1 g2)⟩
      · have := sz_le hz
        rw [RpAll.length g1, RpAll.length g2]; exact this
      · subst e; cases g1
        exact fin0 r q (.tup k2 (by simpa using g2))
      · subst e; cases g2
        exact fin0 r q (.tup k1 (by simpa using g1))
    · cases hp
  · cases hp
theorem op_subP : OpR X (binaryOp .Sub) (rP2 X.K B .sub) := by
  intro pins s σ H x y v u Q I rx ry h
  obtain ⟨σ', F, env, a, b, d, r, ha, hb, hp, q⟩ := rP2_in h
  have hp : qSub a b = some d := hp
  unfold qSub at hp
  split at hp
  · cases hp
    exact op_sub pins s σ H x y v u Q I rx ry ⟨_, _, ha.int, hb.int, fin0 r q (.int _)⟩
  · cases hp
theorem rep_rd : OpR X (binaryOp .Mult) (fun x y H Q => ∃ l k xs, x = .ref l ∧ y = .int k ∧ Rd H l (.lst xs) ∧ 0 ≤ k ∧ k ≤ 1000000 ∧ xs.length * k.toNat ≤ 1000000 ∧ ∀ p, H p = none → Q (.ref p) (upd H p (.lst (List.replicate k.toNat xs).flatten))) := by
  intro pins s σ H x y v u Q I rx ry h
  obtain ⟨l, k, xs, rfl, rfl, hH, h1, h2, hz, q⟩ := h
  cases rx
  obtain ⟨t, rfl⟩ := ry
  obtain ⟨z1, its, n, r1, e⟩ := hH.ok I.hok
  have hl := r1.length
  have hz' : its.toArray.size * k.toNat ≤ 1000000 := by
    rw [List.size_toArray, ← hl]; exact hz
  have fit : ¬ (!Builtin.List.listFitsIndex k) = true := by
    simp [Builtin.List.listFitsIndex]; omega
  have long : ¬ Builtin.List.listTooLong (its.toArray.size * k.toNat) = true := by
    simp [Builtin.List.listTooLong, sizeLine]; simpa using (show its.length * k.toNat ≤ 16777216 by simpa using Nat.le_trans hz' (by decide))
  have inner := lm_list_mul_any l its.toArray n none #[] k t (by simpa using fit)
    (by omega) (by simpa using long)
  refine wpAny_binaryOp_repeat_ref (T := "list") (U := "int") (by decide) ⟨_, e, rfl⟩
    (fun s' => typeIs_int s' k t) noFill_list_mul F.fills_int_mul
    F.slot_int_rmul repeat_list F.slot_int_index.lookup ?_
  refine call_meets F.slot_int_rmul (typeIs_int s k t) F.entry_int_rmul (F.args_int_rmul_2 _ _)
    (lm_int_rmul_list_any k t l its.toArray n none #[]) ⟨e, rfl, ⟨_, e, rfl⟩, ?_⟩
  refine call_meets F.slot_list_mul ⟨_, e, rfl⟩ F.entry_list_mul (F.args_list_mul_2 _ _) inner ⟨e, ?_⟩
  rw [listMul_foldl_if]
  exact ⟨.ref _, _, I.lnew (t' := s.toks) (r1.rep k.toNat) (by rw [lm_len_rep_flat, Nat.mul_comm]; exact Nat.le_trans hz (by decide)), rfl, q _ I.fresh⟩
theorem op_mulP : OpR X (binaryOp .Mult) (rP2 X.K B .mul) := by
  intro pins s σ H x y v u Q I rx ry h
  obtain ⟨σ', F, env, a, b, d, r, ha, hb, hp, q⟩ := rP2_in h
  have hp : qMul a b = some d := hp
  unfold qMul at hp
  split at hp
  · split at hp
    · rename_i hz
      cases hp
      exact op_mulW pins s σ H x y v u Q I rx ry ⟨_, _, ha.int, hb.int, hz, fin0 r q (.int _)⟩
    · cases hp
  · split at hp
    · rename_i hz
      cases hp
      obtain ⟨a1, vs1, rfl, h1, g1⟩ := ha.lst r.fh
      exact rep_rd pins s σ H _ y v u Q I rx ry ⟨_, _, _, rfl, hb.int, h1, hz.1, hz.2.1, by rw [RpAll.length g1]; exact hz.2.2, finL r q (RpAll.rep g1 _)⟩
    · cases hp
  · cases hp
theorem op_fdivP : OpR X (binaryOp .FloorDiv) (rP2 X.K B .fdiv) := by
  intro pins s σ H x y v u Q I rx ry h
  obtain ⟨σ', F, env, a, b, d, r, ha, hb, hp, q⟩ := rP2_in h
  have hp : qFdiv a b = some d := hp
  unfold qFdiv at hp
  split at hp
  · split at hp
    · rename_i hz
      cases hp
      exact (opI (C := fun i j => j ≠ 0 ∧ j.natAbs.log2 < 9000) (g := fun i j => i.fdiv j) fun i j _ _ _ _ _ hc q => floordiv_int hc.1 q (.inl (PyProof.noPylong_of_log2 hc.2))) pins s σ H x y v u Q I rx ry ⟨_, _, ha.int, hb.int, hz, fin0 r q (.int _)⟩
    · cases hp
  · cases hp
theorem op_modP : OpR X (binaryOp .Mod) (rP2 X.K B .mod) := by
  intro pins s σ H x y v u Q I rx ry h
  obtain ⟨σ', F, env, a, b, d, r, ha, hb, hp, q⟩ := rP2_in h
  have hp : qMod a b = some d := hp
  unfold qMod at hp
  split at hp
  · split at hp
    · rename_i hz
      cases hp
      exact op_modN pins s σ H x y v u Q I rx ry ⟨_, _, ha.int, hb.int, hz, fin0 r q (.int _)⟩
    · cases hp
  · cases hp
theorem op_powP : OpR X (binaryOp .Pow) (rP2 X.K B .pow) := by
  intro pins s σ H x y v u Q I rx ry h
  obtain ⟨σ', F, env, a, b, d, r, ha, hb, hp, q⟩ := rP2_in h
  have hp : qPow a b = some d := hp
  unfold qPow at hp
  split at hp
  · split at hp
    · rename_i hz
      cases hp
      refine (opI (C := fun i j => 0 ≤ j ∧ i.natAbs.log2 < 10000 ∧ j ≤ 10000) (g := fun i j => i ^ j.toNat) fun i j _ _ _ _ _ hc q => pow_int hc.1 ?_ q) pins s σ H x y v u Q I rx ry ⟨_, _, ha.int, hb.int, hz, fin0 r q (.int _)⟩
      have hb : (Builtin.Int.intBits i : Int) ≤ 10000 := by
        unfold Builtin.Int.intBits
        have := hc.2.1
        split <;> omega
      have h0 : (0 : Int) ≤ Builtin.Int.intBits i := Int.natCast_nonneg _
      calc (Builtin.Int.intBits i : Int) * j ≤ 10000 * j := Int.mul_le_mul_of_nonneg_right hb hc.1
        _ ≤ 10000 * 10000 := Int.mul_le_mul_of_nonneg_left hc.2.2 (by decide)
        _ ≤ 2 ^ 27 := by decide
    · cases hp
  · cases hp
end
end PD

/-! PD6: comparisons, built-ins of the small language. -/
namespace PD
open PySem PySem.Spec PyProof.Rows L2
section
variable {X : Cx} {B : Bs}
theorem Bo.reads {F H : Hp} {pins : List (Addr × Obj)} {s : Shared} {σ : L2.St} {x : V} {u : Value} {d : D} (I : Inv X pins σ H s) (fh : Same F H) (h : Bo X.K F H x d) (r : RelV x u) : ∃ as, Reads s.heap u d as :=
  Dp.reads I d x u (Rp.dp _ _ (h.rp fh)) r
theorem op_eqP (hu : X.A.units + 64 < cLine) : OpR X (compareOp .Eq) (rP2 X.K B .eq) := by
  intro pins s σ H x y v u Q I rx ry h
  obtain ⟨σ', F, env, a, b, d, r, ha, hb, hp, q⟩ := rP2_in h
  have hp : qEq a b = some d := hp
  unfold qEq eqOk at hp
  split at hp
  · rename_i hz
    rw [Bool.and_eq_true] at hz
    cases hp
    exact op_eqD hu pins s σ H x y v u Q I rx ry ⟨a, b, Rp.dp _ _ (ha.rp r.fh), Rp.dp _ _ (hb.rp r.fh), hz.1, hz.2, fin0 r q (.bl _)⟩
  · cases hp
theorem op_neP (hu : X.A.units + 64 < cLine) : OpR X (compareOp .NotEq) (rP2 X.K B .ne) := by
  intro pins s σ H x y v u Q I rx ry h
  obtain ⟨σ', F, env, a, b, d, r, ha, hb, hp, q⟩ := rP2_in h
  have hp : qNe a b = some d := hp
  unfold qNe eqOk at hp
  split at hp
  · rename_i hz
    rw [Bool.and_eq_true] at hz
    cases hp
    exact op_neD hu pins s σ H x y v u Q I rx ry ⟨a, b, Rp.dp _ _ (ha.rp r.fh), Rp.dp _ _ (hb.rp r.fh), hz.1, hz.2, fin0 r q (.bl _)⟩
  · cases hp
theorem ord_in {a b : D} (h : ordOk' a b = true) : PySem.W.alike a b = true ∧ a ≠ .none ∧ a.depth ≤ 64 := by
  unfold ordOk' ordOk at h
  rw [Bool.and_eq_true, Bool.and_eq_true] at h
  refine ⟨h.1.1, fun e => ?_, of_decide_eq_true h.1.2⟩
  rw [e] at h
  exact absurd h.2 (by simp)
theorem room_min {u m n : Nat} (hu : u + 64 < cLine) (h : m ≤ 64) : u + min m n < cLine := Nat.lt_of_le_of_lt (Nat.add_le_add_left (Nat.le_trans (Nat.min_le_left _ _) h) _) hu
theorem op_ltP (hu : X.A.units + 64 < cLine) : OpR X (compareOp .Lt) (rP2 X.K B .lt) := by
  intro pins s σ H x y v u Q I rx ry h
  obtain ⟨σ', F, env, a, b, d, r, ha, hb, hp, q⟩ := rP2_in h
  have hp : qLt a b = some d := hp
  unfold qLt at hp
  split at hp
  · rename_i hz
    obtain ⟨h1, h2, h3⟩ := ord_in hz
    cases hp
    obtain ⟨as, ra⟩ := ha.reads I r.fh rx
    obtain ⟨bs, rb⟩ := hb.reads I r.fh ry
    exact PySem.W.lt_data ra rb h1 h2 (room_min hu h3) ⟨.bl _, H, I, rfl, fin0 r q (.bl _)⟩
  · cases hp
theorem op_leP (hu : X.A.units + 64 < cLine) : OpR X (compareOp .LtE) (rP2 X.K B .le) := by
  intro pins s σ H x y v u Q I rx ry h
  obtain ⟨σ', F, env, a, b, d, r, ha, hb, hp, q⟩ := rP2_in h
  have hp : qLe a b = some d := hp
  unfold qLe at hp
  split at hp
  · rename_i hz
    obtain ⟨h1, h2, h3⟩ := ord_in hz
    cases hp
    obtain ⟨as, ra⟩ := ha.reads I r.fh rx
    obtain ⟨bs, rb⟩ := hb.reads I r.fh ry
    exact PySem.W.le_data ra rb h1 h2 (room_min hu h3) ⟨.bl _, H, I, rfl, fin0 r q (.bl _)⟩
  · cases hp
theorem op_gtP (hu : X.A.units + 64 < cLine) : OpR X (compareOp .Gt) (rP2 X.K B .gt) := by
  intro pins s σ H x y v u Q I rx ry h
  obtain ⟨σ', F, env, a, b, d, r, ha, hb, hp, q⟩ := rP2_in h
  have hp : qGt a b = some d := hp
  unfold qGt at hp
  split at hp
  · rename_i hz
    obtain ⟨h1, h2, h3⟩ := ord_in hz
    cases hp
    obtain ⟨as, ra⟩ := ha.reads I r.fh rx
    obtain ⟨bs, rb⟩ := hb.reads I r.fh ry
    exact PySem.W.gt_data ra rb h1 h2 (room_min hu h3) ⟨.bl _, H, I, rfl, fin0 r q (.bl _)⟩
  · cases hp
theorem op_geP (hu : X.A.units + 64 < cLine) : OpR X (compareOp .GtE) (rP2 X.K B .ge) := by
  intro pins s σ H x y v u Q I rx ry h
  obtain ⟨σ', F, env, a, b, d, r, ha, hb, hp, q⟩ := rP2_in h
  have hp : qGe a b = some d := hp
  unfold qGe at hp
  split at hp
  · rename_i hz
    obtain ⟨h1, h2, h3⟩ := ord_in hz
    cases hp
    obtain ⟨as, ra⟩ := ha.reads I r.fh rx
    obtain ⟨bs, rb⟩ := hb.reads I r.fh ry
    exact PySem.W.ge_data ra rb h1 h2 (room_min hu h3) ⟨.bl _, H, I, rfl, fin0 r q (.bl _)⟩
  · cases hp
theorem op_inP (hu : X.A.units + 65 < cLine) : OpR X (compareOp .In) (rP2 X.K B .isin) := by
  intro pins s σ H x y v u Q I rx ry h
  obtain ⟨σ', F, env, a, b, d, r, ha, hb, hp, q⟩ := rP2_in h
  have hp : qIn a b = some d := hp
  obtain ⟨as, ra⟩ := ha.reads I r.fh rx
  obtain ⟨bs, rb⟩ := hb.reads I r.fh ry
  unfold qIn eqOk at hp
  split at hp
  · split at hp
    · rename_i hz
      rw [Bool.and_eq_true] at hz
      cases hp
      exact SeqAt.in_list_reads rb ra (SeqAt.canLay_of_shaped hz.2) (SeqAt.canLay_of_shaped hz.1) (room_in_shaped hz.1 hu) ⟨.bl _, H, I, rfl, fin0 r q (.bl _)⟩
    · cases hp
  · split at hp
    · rename_i hz
      rw [Bool.and_eq_true] at hz
      cases hp
      exact SeqAt.in_tuple_reads rb ra (SeqAt.canLay_of_shaped hz.2) (SeqAt.canLay_of_shaped hz.1) (room_in_shaped hz.1 hu) ⟨.bl _, H, I, rfl, fin0 r q (.bl _)⟩
    · cases hp
  · cases hp
theorem op_notinP (hu : X.A.units + 65 < cLine) : OpR X (compareOp .NotIn) (rP2 X.K B .notin) := by
  intro pins s σ H x y v u Q I rx ry h
  obtain ⟨σ', F, env, a, b, d, r, ha, hb, hp, q⟩ := rP2_in h
  have hp : qNotin a b = some d := hp
  obtain ⟨as, ra⟩ := ha.reads I r.fh rx
  obtain ⟨bs, rb⟩ := hb.reads I r.fh ry
  unfold qNotin eqOk at hp
  split at hp
  · split at hp
    · rename_i hz
      rw [Bool.and_eq_true] at hz
      cases hp
      exact SeqAt.notIn_list_reads rb ra (SeqAt.canLay_of_shaped hz.2) (SeqAt.canLay_of_shaped hz.1) (room_in_shaped hz.1 hu) ⟨.bl _, H, I, rfl, fin0 r q (.bl _)⟩
    · cases hp
  · split at hp
    · rename_i hz
      rw [Bool.and_eq_true] at hz
      cases hp
      exact SeqAt.notIn_tuple_reads rb ra (SeqAt.canLay_of_shaped hz.2) (SeqAt.canLay_of_shaped hz.1) (room_in_shaped hz.1 hu) ⟨.bl _, H, I, rfl, fin0 r q (.bl _)⟩
    · cases hp
  · cases hp
theorem val_non {F H : Hp} {x : V} {v : Value} {a : D} {K : PySem.W.Frag} (ha : Bo K F H x a) (rx : RelV x v) : (v == Value.none) = isNonD a := by
  rcases ha with h | ⟨l, vs, ds, rfl, rfl, _, _⟩
  · cases h with
    | non => cases rx; rfl
    | bl b => cases rx; rfl
    | int i => obtain ⟨t, rfl⟩ := rx; rfl
    | str z => obtain ⟨t, rfl⟩ := rx; rfl
    | lst _ _ => cases rx; rfl
    | tup _ _ => cases rx; rfl
  · cases rx; rfl
theorem isV_val {F H : Hp} {x y : V} {v u : Value} {a b : D} {k : Bool} {K : PySem.W.Frag} {M : Model} {A : Around} {E : Value → Shared → Prop} {s : Shared} {Q : Value → Shared → Prop} (ha : Bo K F H x a) (hb : Bo K F H y b) (rx : RelV x v) (ry : RelV y u) (h : isV a b = some k) :
    (Q (.bool k) s → wpAny M A (compareOp .Is v u) Q E s) ∧ (Q (.bool (!k)) s → wpAny M A (compareOp .IsNot v u) Q E s) := by
  cases b with
  | none =>
    have ey := hb.none
    subst ey
    cases ry
    have e := val_non ha rx
    have hk : k = isNonD a := by
      cases a <;> exact (Option.some.inj h).symm
    rw [← e] at hk
    exact ⟨fun q => is_none_gen (by rw [← hk]; exact q), fun q => isnot_none_gen (by rw [← hk]; exact q)⟩
  | bool b =>
    have ey := hb.bool
    subst ey
    cases ry
    cases a with
    | bool c =>
      have ex := ha.bool
      subst ex
      cases rx
      cases h
      exact ⟨fun q => is_bool q, fun q => isnot_bool (by simpa [bne] using q)⟩
    | none =>
      have ex := ha.none
      subst ex
      cases rx
      cases h
      exact ⟨fun q => wpAny_pure q, fun q => wpAny_pure q⟩
    | int i =>
      have ex := ha.int
      subst ex
      obtain ⟨t, rfl⟩ := rx
      cases h
      exact ⟨fun q => wpAny_pure q, fun q => wpAny_pure q⟩
    | str z =>
      have ex := ha.str
      subst ex
      obtain ⟨t, rfl⟩ := rx
      cases h
      exact ⟨fun q => wpAny_pure q, fun q => wpAny_pure q⟩
    | list xs =>
      obtain ⟨l, rfl⟩ : ∃ l, x = .ref l := by
        rcases ha with h | ⟨l, vs, ds, rfl, _⟩
        · cases h; exact ⟨_, rfl⟩
        · exact ⟨l, rfl⟩
      cases rx
      cases h
      exact ⟨fun q => wpAny_pure q, fun q => wpAny_pure q⟩
    | tuple xs =>
      obtain ⟨l, rfl⟩ : ∃ l, x = .ref l := by
        rcases ha with h | ⟨l, vs, ds, rfl, _⟩
        · cases h; exact ⟨_, rfl⟩
        · exact ⟨l, rfl⟩
      cases rx
      cases h
      exact ⟨fun q => wpAny_pure q, fun q => wpAny_pure q⟩
    | dict _ => cases h
  | int _ => cases a <;> cases h
  | str _ => cases a <;> cases h
  | list _ => cases a <;> cases h
  | tuple _ => cases a <;> cases h
  | dict _ => cases a <;> cases h
theorem op_isP : OpR X (compareOp .Is) (rP2 X.K B .is) := by
  intro pins s σ H x y v u Q I rx ry h
  obtain ⟨σ', F, env, a, b, d, r, ha, hb, hp, q⟩ := rP2_in h
  obtain ⟨k, e, rfl⟩ := Option.map_eq_some_iff.mp (show (isV a b).map PyData.bool = some d from hp)
  exact (isV_val ha hb rx ry e).1 ⟨.bl _, H, I, rfl, fin0 r q (.bl _)⟩
theorem op_isnotP : OpR X (compareOp .IsNot) (rP2 X.K B .isnot) := by
  intro pins s σ H x y v u Q I rx ry h
  obtain ⟨σ', F, env, a, b, d, r, ha, hb, hp, q⟩ := rP2_in h
  obtain ⟨k, e, rfl⟩ := Option.map_eq_some_iff.mp (show (isV a b).map (fun r => PyData.bool (!r)) = some d from hp)
  exact (isV_val ha hb rx ry e).2 ⟨.bl _, H, I, rfl, fin0 r q (.bl _)⟩

/-- the comparison's rule, by its sign -/
theorem cmpP (hu : X.A.units + 65 < cLine) {op : CmpOp} {p : Pr} (h : cCmp op = some p) : OpR X (compareOp op) (rP2 X.K B p) := by
  have h64 : X.A.units + 64 < cLine := by omega
  cases op <;> cases h
  · exact op_eqP h64
  · exact op_neP h64
  · exact op_ltP h64
  · exact op_leP h64
  · exact op_gtP h64
  · exact op_geP h64
  · exact op_isP
  · exact op_isnotP
  · exact op_inP hu
  · exact op_notinP hu
theorem binP {op : Operator} {p : Pr} (h : cOp op = some p) : OpR X (binaryOp op) (rP2 X.K B p) := by
  cases op <;> cases h
  · exact op_addP
  · exact op_subP
  · exact op_mulP
  · exact op_modP
  · exact op_powP
  · exact op_fdivP

/-! ### one place -/
theorem un_negP : UnR X (unaryOp .USub) (rP1 X.K B .neg) := by
  intro pins s σ H x v Q I rx h
  obtain ⟨σ', F, env, a, d, r, ha, hp, q⟩ := rP1_in h
  have hp : qNeg a = some d := hp
  unfold qNeg at hp
  split at hp
  · cases hp
    exact un_neg pins s σ H x v Q I rx ⟨_, ha.int, fin0 r q (.int _)⟩
  · cases hp

/-! ### subscripts -/
theorem atD_at {K : PySem.W.Frag} {F : Hp} {vs : List V} {ds : List D} {i : Int} {d : D} (h : RpAll K F vs ds) (e : atD ds i = some d) : ∃ v, atI vs i = some v ∧ Rp K F v d := by
  unfold atD at e
  cases q : ixAt ds.length i with
  | none => rw [q] at e; cases e
  | some j =>
    rw [q] at e
    obtain ⟨v, h1, h2⟩ := RpAll.get h (show ds[j]? = some d from e)
    refine ⟨v, ?_, h2⟩
    show (ixN vs.length i).bind (fun j => vs[j]?) = some v
    rw [RpAll.length h, show ixN ds.length i = some j from q]
    exact h1
theorem ixP : IxR X (rP2 X.K B .ix) := by
  intro value slice pins s σ H x y v u Q I rx ry h hs
  obtain ⟨σ', F, env, a, b, d, r, ha, hb, hp, q⟩ := rP2_in h
  have hp : qIx a b = some d := hp
  unfold qIx at hp
  split at hp
  · obtain ⟨l, vs, rfl, h1, g⟩ := ha.lst r.fh
    obtain ⟨w, e1, e2⟩ := atD_at g hp
    exact ix_list value slice pins s σ H _ y v u Q I rx ry ⟨l, vs, _, w, rfl, hb.int, .inl h1, e1, fin0 r q e2⟩ hs
  · obtain ⟨l, vs, rfl, h1, g, _⟩ := ha.tup r.fh
    obtain ⟨w, e1, e2⟩ := atD_at g hp
    exact ix_tup value slice pins s σ H _ y v u Q I rx ry ⟨l, vs, _, w, rfl, hb.int, h1, e1, fin0 r q e2⟩ hs
  · cases hp
end
end PD

/-! PD7: built-in functions of the small language. -/
namespace PD
open PySem PySem.Spec PyProof.Rows L2
section
variable {X : Cx} {B : Bs}
/-- a built-in of one argument: v's own reading goes through -/
theorem rPl_in {K : PySem.W.Frag} {p : Pr} {vs : List V} {H : Hp} {Q : VK} (h : rP K B p vs H Q) (n : vs.length = 1) : ∃ x, vs = [x] ∧ ∃ σ F env a d, Rl K B F env σ H ∧ Bo K F H x a ∧ pr1 p a = some d ∧ ∀ v F' H', Stp K B σ F env H F' env H' → Rp K F' v d → Q v H' := by
  match vs, n with
  | [x], _ => exact ⟨x, rfl, rP1_in h⟩
theorem rPl2_in {K : PySem.W.Frag} {p : Pr} {vs : List V} {H : Hp} {Q : VK} (h : rP K B p vs H Q) (n : vs.length = 2) : ∃ x y, vs = [x, y] ∧ ∃ σ F env a b d, Rl K B F env σ H ∧ Bo K F H x a ∧ Bo K F H y b ∧ pr2 p a b = some d ∧ ∀ v F' H', Stp K B σ F env H F' env H' → Rp K F' v d → Q v H' := by
  match vs, n with
  | [x, y], _ => exact ⟨x, y, rfl, rP2_in h⟩
/-- .. at one argument -/
abbrev rPb (K : PySem.W.Frag) (B : Bs) (p : Pr) (n : Nat) : List V → Hp → VK → Prop := fun vs H Q => vs.length = n ∧ rP K B p vs H Q

theorem cr_lenP : CallR X (.builtin "len") (rPb X.K B .len 1) := by
  intro pins s σ H vs us Q I r h
  obtain ⟨x, rfl, σ', F, env, a, d, rl, ha, hp, q⟩ := rPl_in h.2 h.1
  have hp : qLen a = some d := hp
  unfold qLen at hp
  split at hp
  · cases hp
    obtain ⟨l, ws, rfl, h1, g⟩ := ha.lst rl.fh
    exact call_len_seq pins s σ H _ us Q I r ⟨l, ws, rfl, .inl (.inl h1), by rw [RpAll.length g]; exact fin0 rl q (.int _)⟩
  · cases hp
    obtain ⟨l, ws, rfl, h1, g, _⟩ := ha.tup rl.fh
    exact call_len_seq pins s σ H _ us Q I r ⟨l, ws, rfl, .inr h1, by rw [RpAll.length g]; exact fin0 rl q (.int _)⟩
  · cases hp
theorem cr_intP : CallR X (.type "int") (rPb X.K B .int 1) := by
  intro pins s σ H vs us Q I r h
  obtain ⟨x, rfl, σ', F, env, a, d, rl, ha, hp, q⟩ := rPl_in h.2 h.1
  have hp : qInt a = some d := hp
  unfold qInt at hp
  split at hp
  · cases hp
    exact call_int1 pins s σ H _ us Q I r (.inl ⟨_, by rw [ha.int], fin0 rl q (.int _)⟩)
  · cases hp
    exact call_int1 pins s σ H _ us Q I r (.inr ⟨_, by rw [ha.bool], fin0 rl q (.int _)⟩)
  · cases hp
theorem cr_absP : CallR X (.builtin "abs") (rPb X.K B .abs 1) := by
  intro pins s σ H vs us Q I r h
  obtain ⟨x, rfl, σ', F, env, a, d, rl, ha, hp, q⟩ := rPl_in h.2 h.1
  have hp : qAbs a = some d := hp
  unfold qAbs at hp
  split at hp
  · cases hp
    exact call_abs pins s σ H _ us Q I r ⟨_, by rw [ha.int], fin0 rl q (.int _)⟩
  · cases hp
theorem cr_max2P (hc : X.calm = true) : CallR X (.builtin "max") (rPb X.K B .max2 2) := by
  intro pins s σ H vs us Q I r h
  obtain ⟨x, y, rfl, σ', F, env, a, b, d, rl, ha, hb, hp, q⟩ := rPl2_in h.2 h.1
  have hp : qMax2 a b = some d := hp
  unfold qMax2 at hp
  split at hp
  · cases hp
    exact call_max2 hc pins s σ H _ us Q I r ⟨_, _, by rw [ha.int, hb.int], fin0 rl q (.int _)⟩
  · cases hp
theorem cr_min2P (hc : X.calm = true) : CallR X (.builtin "min") (rPb X.K B .min2 2) := by
  intro pins s σ H vs us Q I r h
  obtain ⟨x, y, rfl, σ', F, env, a, b, d, rl, ha, hb, hp, q⟩ := rPl2_in h.2 h.1
  have hp : qMin2 a b = some d := hp
  unfold qMin2 at hp
  split at hp
  · cases hp
    exact call_min2 hc pins s σ H _ us Q I r ⟨_, _, by rw [ha.int, hb.int], fin0 rl q (.int _)⟩
  · cases hp
theorem ints_vs {K : PySem.W.Frag} {F : Hp} : ∀ {ds : List D} {vs : List V} {ns : List Int}, RpAll K F vs ds → intsOf ds = some ns → vs = ns.map V.int
  | [], _, _, h, e => by cases h; simp [intsOf] at e; subst e; rfl
  | .int i :: r, _, _, h, e => by
    cases h with
    | cons h t =>
      cases h
      unfold intsOf at e
      obtain ⟨ms, e1, rfl⟩ := Option.map_eq_some_iff.mp e
      rw [ints_vs t e1]
      rfl
  | .none :: _, _, _, _, e => by cases e
  | .bool _ :: _, _, _, _, e => by cases e
  | .str _ :: _, _, _, _, e => by cases e
  | .list _ :: _, _, _, _, e => by cases e
  | .tuple _ :: _, _, _, _, e => by cases e
  | .dict _ :: _, _, _, _, e => by cases e
theorem bools_vs {K : PySem.W.Frag} {F : Hp} : ∀ {ds : List D} {vs : List V} {ns : List Bool}, RpAll K F vs ds → boolsOf ds = some ns → vs = ns.map V.bl
  | [], _, _, h, e => by cases h; simp [boolsOf] at e; subst e; rfl
  | .bool i :: r, _, _, h, e => by
    cases h with
    | cons h t =>
      cases h
      unfold boolsOf at e
      obtain ⟨ms, e1, rfl⟩ := Option.map_eq_some_iff.mp e
      rw [bools_vs t e1]
      rfl
  | .none :: _, _, _, _, e => by cases e
  | .int _ :: _, _, _, _, e => by cases e
  | .str _ :: _, _, _, _, e => by cases e
  | .list _ :: _, _, _, _, e => by cases e
  | .tuple _ :: _, _, _, _, e => by cases e
  | .dict _ :: _, _, _, _, e => by cases e
theorem cr_sumP (hc : X.calm = true) : CallR X (.builtin "sum") (rPb X.K B .sum 1) := by
  intro pins s σ H vs us Q I r h
  obtain ⟨x, rfl, σ', F, env, a, d, rl, ha, hp, q⟩ := rPl_in h.2 h.1
  have hp : qSum a = some d := hp
  unfold qSum at hp
  split at hp
  · obtain ⟨ns, e, rfl⟩ := Option.map_eq_some_iff.mp hp
    obtain ⟨l, ws, rfl, h1, g⟩ := ha.lst rl.fh
    exact cr_sum hc pins s σ H _ us Q I r ⟨l, ns, rfl, by rw [← ints_vs g e]; exact .inl h1, fin0 rl q (.int _)⟩
  · cases hp
theorem cr_allP (hc : X.calm = true) : CallR X (.builtin "all") (rPb X.K B .all 1) := by
  intro pins s σ H vs us Q I r h
  obtain ⟨x, rfl, σ', F, env, a, d, rl, ha, hp, q⟩ := rPl_in h.2 h.1
  have hp : qAll a = some d := hp
  unfold qAll at hp
  split at hp
  · obtain ⟨ns, e, rfl⟩ := Option.map_eq_some_iff.mp hp
    obtain ⟨l, ws, rfl, h1, g⟩ := ha.lst rl.fh
    exact cr_all hc pins s σ H _ us Q I r ⟨l, ns, rfl, by rw [← bools_vs g e]; exact .inl h1, fin0 rl q (.bl _)⟩
  · cases hp
theorem cr_anyP (hc : X.calm = true) : CallR X (.builtin "any") (rPb X.K B .any 1) := by
  intro pins s σ H vs us Q I r h
  obtain ⟨x, rfl, σ', F, env, a, d, rl, ha, hp, q⟩ := rPl_in h.2 h.1
  have hp : qAny a = some d := hp
  unfold qAny at hp
  split at hp
  · obtain ⟨ns, e, rfl⟩ := Option.map_eq_some_iff.mp hp
    obtain ⟨l, ws, rfl, h1, g⟩ := ha.lst rl.fh
    exact cr_any hc pins s σ H _ us Q I r ⟨l, ns, rfl, by rw [← bools_vs g e]; exact .inl h1, fin0 rl q (.bl _)⟩
  · cases hp
theorem fold_max : ∀ (r : List Int) (n : Int), (r.foldl max n = n ∨ r.foldl max n ∈ r) ∧ n ≤ r.foldl max n ∧ ∀ y ∈ r, y ≤ r.foldl max n
  | [], n => ⟨.inl rfl, Int.le_refl _, fun _ h => by cases h⟩
  | m :: r, n => by
    obtain ⟨h1, h2, h3⟩ := fold_max r (max n m)
    simp only [List.foldl_cons, List.mem_cons]
    refine ⟨?_, by omega, fun y hy => ?_⟩
    · rcases h1 with h1 | h1
      · rcases Int.le_total n m with h | h
        · right; left; rw [h1]; omega
        · left; rw [h1]; omega
      · exact .inr (.inr h1)
    · rcases hy with rfl | hy
      · omega
      · exact h3 y hy
theorem fold_min : ∀ (r : List Int) (n : Int), (r.foldl min n = n ∨ r.foldl min n ∈ r) ∧ r.foldl min n ≤ n ∧ ∀ y ∈ r, r.foldl min n ≤ y
  | [], n => ⟨.inl rfl, Int.le_refl _, fun _ h => by cases h⟩
  | m :: r, n => by
    obtain ⟨h1, h2, h3⟩ := fold_min r (min n m)
    simp only [List.foldl_cons, List.mem_cons]
    refine ⟨?_, by omega, fun y hy => ?_⟩
    · rcases h1 with h1 | h1
      · rcases Int.le_total n m with h | h
        · left; rw [h1]; omega
        · right; left; rw [h1]; omega
      · exact .inr (.inr h1)
    · rcases hy with rfl | hy
      · omega
      · exact h3 y hy
theorem cr_maxP (hc : X.calm = true) : CallR X (.builtin "max") (rPb X.K B .maxL 1) := by
  intro pins s σ H vs us Q I r h
  obtain ⟨x, rfl, σ', F, env, a, d, rl, ha, hp, q⟩ := rPl_in h.2 h.1
  have hp : qMaxL a = some d := hp
  unfold qMaxL at hp
  split at hp
  · obtain ⟨ns, e, hp⟩ := Option.bind_eq_some_iff.mp hp
    cases ns with
    | nil => cases hp
    | cons n t =>
      cases hp
      obtain ⟨l, ws, rfl, h1, g⟩ := ha.lst rl.fh
      obtain ⟨k1, k2, k3⟩ := fold_max t n
      refine cr_max hc pins s σ H _ us Q I r ⟨l, n :: t, rfl, by rw [← ints_vs g e]; exact .inl h1, by simp, fun m hm hM => ?_⟩
      have em : m = t.foldl max n := by
        have a1 := hM (t.foldl max n) (by rcases k1 with k | k; · rw [k]; exact List.mem_cons_self
                                          · exact List.mem_cons_of_mem _ k)
        have a2 : m ≤ t.foldl max n := by
          rcases List.mem_cons.mp hm with rfl | z
          · exact k2
          · exact k3 m z
        omega
      rw [em]
      exact fin0 rl q (.int _)
  · cases hp
theorem cr_minP (hc : X.calm = true) : CallR X (.builtin "min") (rPb X.K B .minL 1) := by
  intro pins s σ H vs us Q I r h
  obtain ⟨x, rfl, σ', F, env, a, d, rl, ha, hp, q⟩ := rPl_in h.2 h.1
  have hp : qMinL a = some d := hp
  unfold qMinL at hp
  split at hp
  · obtain ⟨ns, e, hp⟩ := Option.bind_eq_some_iff.mp hp
    cases ns with
    | nil => cases hp
    | cons n t =>
      cases hp
      obtain ⟨l, ws, rfl, h1, g⟩ := ha.lst rl.fh
      obtain ⟨k1, k2, k3⟩ := fold_min t n
      refine cr_min hc pins s σ H _ us Q I r ⟨l, n :: t, rfl, by rw [← ints_vs g e]; exact .inl h1, by simp, fun m hm hM => ?_⟩
      have em : m = t.foldl min n := by
        have a1 := hM (t.foldl min n) (by rcases k1 with k | k; · rw [k]; exact List.mem_cons_self
                                          · exact List.mem_cons_of_mem _ k)
        have a2 : t.foldl min n ≤ m := by
          rcases List.mem_cons.mp hm with rfl | z
          · exact k2
          · exact k3 m z
        omega
      rw [em]
      exact fin0 rl q (.int _)
  · cases hp
theorem cr_listP : CallR X (.type "list") (rPb X.K B .list 1) := by
  intro pins s σ H vs us Q I r h
  obtain ⟨x, rfl, σ', F, env, a, d, rl, ha, hp, q⟩ := rPl_in h.2 h.1
  have hp : qList a = some d := hp
  unfold qList at hp
  split at hp
  · cases hp
    obtain ⟨l, ws, rfl, h1, g⟩ := ha.lst rl.fh
    exact call_list_of pins s σ H _ us Q I r ⟨l, ws, rfl, .inl (.inl h1), finL rl q g⟩
  · cases hp
    obtain ⟨l, ws, rfl, h1, g, _⟩ := ha.tup rl.fh
    exact call_list_of pins s σ H _ us Q I r ⟨l, ws, rfl, .inr h1, finL rl q g⟩
  · cases hp
theorem cr_tupleP : CallR X (.type "tuple") (rPb X.K B .tuple 1) := by
  intro pins s σ H vs us Q I r h
  obtain ⟨x, rfl, σ', F, env, a, d, rl, ha, hp, q⟩ := rPl_in h.2 h.1
  have hp : qTuple a = some d := hp
  unfold qTuple at hp
  split at hp
  · cases hp
    obtain ⟨l, ws, rfl, h1, g⟩ := ha.lst rl.fh
    exact call_tuple_of pins s σ H _ us Q I r ⟨l, ws, rfl, .inl ⟨.inl h1, finT rl q g⟩⟩
  · cases hp
    obtain ⟨l, ws, rfl, h1, g, h2⟩ := ha.tup rl.fh
    exact call_tuple_of pins s σ H _ us Q I r ⟨l, ws, rfl, .inr ⟨h1, fin0 rl q (.tup h2 g)⟩⟩
  · cases hp
end
end PD

/-! PD8: sorted, repr, isinstance, slices of the small language. -/
namespace PD
open PySem PySem.Spec PyProof.Rows L2

theorem map_sort (le : D → D → Bool) : ∀ l : List (V × D), (l.mergeSort fun x y => le x.2 y.2).map (·.2) = (l.map (·.2)).mergeSort le := fun l =>
  List.map_mergeSort fun _ _ _ _ => rfl
section
variable {X : Cx} {B : Bs}
theorem RpAll.zip {K : PySem.W.Frag} {F : Hp} : ∀ {vs : List V} {ds : List D}, RpAll K F vs ds → (vs.zip ds).map (·.1) = vs ∧ (vs.zip ds).map (·.2) = ds ∧ ∀ p ∈ vs.zip ds, Rp K F p.1 p.2
  | _, _, .nil => ⟨rfl, rfl, fun _ h => by cases h⟩
  | _, _, .cons h t => by
    obtain ⟨h1, h2, h3⟩ := RpAll.zip t
    refine ⟨by simp [h1], by simp [h2], fun p hp => ?_⟩
    rcases List.mem_cons.mp hp with rfl | hp
    · exact h
    · exact h3 p hp
theorem RpAll.of {K : PySem.W.Frag} {F : Hp} : ∀ {l : List (V × D)}, (∀ p ∈ l, Rp K F p.1 p.2) → RpAll K F (l.map (·.1)) (l.map (·.2))
  | [], _ => .nil
  | p :: l, h => .cons (h p List.mem_cons_self) (RpAll.of fun q hq => h q (List.mem_cons_of_mem _ hq))
theorem vals_each {h : Heap} : ∀ {l : List (V × D)} {its : List Value}, Vals (l.map (·.1)) its → (∀ (p : V × D) (u : Value), p ∈ l → RelV p.1 u → ∃ as, Reads h u p.2 as) →
    PySem.W.EachIs (fun v (b : V × D) => RelV b.1 v) its l ∧ PySem.W.EachIs (fun v (b : V × D) => ∃ as, Reads h v b.2 as) its l
  | [], _, .nil, _ => ⟨.nil, .nil⟩
  | p :: l, _, .cons r t, k => by
    obtain ⟨h1, h2⟩ := vals_each t fun q u hq => k q u (List.mem_cons_of_mem _ hq)
    exact ⟨.cons r h1, .cons (k p _ List.mem_cons_self r) h2⟩
theorem each_vals : ∀ {l : List (V × D)} {out : List Value}, PySem.W.EachIs (fun v (b : V × D) => RelV b.1 v) out l → Vals (l.map (·.1)) out
  | _, _, .nil => .nil
  | _, _, .cons h t => .cons h (each_vals t)
theorem alike_of {ds : List D} (h : allAlike ds = true) : PySem.W.AllAlike ds := fun a ha b hb => by
  unfold allAlike at h
  rw [List.all_eq_true] at h
  have := h a ha
  rw [List.all_eq_true] at this
  exact this b hb
theorem sortable_of {ds : List D} (h : sortableD ds = true) : PySem.W.Sortable ds := by
  unfold sortableD at h
  rw [Bool.or_eq_true, List.all_eq_true, List.all_eq_true] at h
  rcases h with h | h
  · refine .inl fun d hd => ?_
    have := h d hd
    cases d with
    | tuple xs =>
      cases xs with
      | nil => cases this
      | cons x r => exact ⟨x, r, rfl⟩
    | _ => cases this
  · refine .inr fun d hd => ⟨fun e => ?_, fun xs e => ?_⟩
    · have := h d hd; rw [e] at this; cases this
    · have := h d hd; rw [e] at this; cases this
theorem depth_mem : ∀ {ds : List D} {d : D}, d ∈ ds → d.depth ≤ PyData.depthAll ds
  | x :: r, d, h => by
    rw [PyData.depthAll]
    rcases List.mem_cons.mp h with rfl | h
    · exact Nat.le_max_left _ _
    · exact Nat.le_trans (depth_mem h) (Nat.le_max_right _ _)
theorem cr_sortedP (hu : X.A.units + 66 < cLine) : CallR X (.builtin "sorted") (rPb X.K B .sorted 1) := by
  intro pins s σ H vs us Q I r h
  obtain ⟨x, rfl, σ', F, env, a, d, rl, ha, hp, q⟩ := rPl_in h.2 h.1
  have hp : qSorted a = some d := hp
  cases a with
  | list ds =>
    simp only [qSorted] at hp
    split at hp
    · rename_i hz
      simp only [Bool.and_eq_true, decide_eq_true_eq] at hz
      obtain ⟨⟨⟨h1, h2⟩, h3⟩, h4⟩ := hz
      cases hp
      obtain ⟨l, ws, rfl, hl, g⟩ := ha.lst rl.fh
      obtain ⟨its, rv, hpl, hlen⟩ := I.list (.inl hl)
      obtain ⟨z1, z2, z3⟩ := RpAll.zip g
      rw [Vals.ref1 r]
      have rv' : Vals ((ws.zip ds).map (·.1)) its := by rw [z1]; exact rv
      obtain ⟨e1, e2⟩ := vals_each (h := s.heap) rv' fun p u hp hr => Dp.reads I p.2 p.1 u (Rp.dp _ _ (Rp.mono rl.fh _ _ (z3 p hp))) hr
      have zl : (ws.zip ds).length = ds.length := by rw [← List.length_map (as := ws.zip ds) (f := (·.2)), z2]
      refine PySem.W.sorted_data (enc := fun b : V × D => b.2) (bs := ws.zip ds) hpl.isList e1 e2 ?_ ?_ ?_ (fun b hb => ?_) fun out lo ho => ?_
      · rw [z2]; exact alike_of h1
      · rw [z2]; exact sortable_of h2
      · rw [zl]; exact sz_le h4
      · have := depth_mem (show b.2 ∈ ds by rw [← z2]; exact List.mem_map.mpr ⟨b, hb, rfl⟩)
        omega
      · have ev := each_vals ho
        have hz : ((ws.zip ds).mergeSort (PySem.W.dataLe false fun b : V × D => b.2)).map (·.2) = sortD ds := by
          have e := map_sort (PySem.W.dataLe false id) (ws.zip ds)
          rw [z2] at e
          exact e
        have hR := RpAll.of (K := X.K) (F := F) (l := (ws.zip ds).mergeSort (PySem.W.dataLe false fun b : V × D => b.2)) fun p hp => z3 p ((List.mergeSort_perm _ _).mem_iff.mp hp)
        rw [hz] at hR
        obtain ⟨ep, he'⟩ := PyProof.Rows.sortedAll_at s.heap its out.toArray
        have hn : H (s.heap.objs.size + 1) = none := I.hok.fresh (Nat.le_succ _)
        have new : ObjOk X.prog X.w (upd H (s.heap.objs.size + 1) (.lst (((ws.zip ds).mergeSort (PySem.W.dataLe false fun b : V × D => b.2)).map (·.1)))) (sortedAll s.heap its out.toArray) (s.heap.objs.size + 1) (.lst (((ws.zip ds).mergeSort (PySem.W.dataLe false fun b : V × D => b.2)).map (·.1))) :=
          ⟨by rw [ev.length, lo, zl]; exact sz_le h4, out, ep, ev, he'⟩
        exact ⟨.ref _, _, I.laid (t' := s.toks) (fun _ _ => PyProof.Rows.sortedAll_old) (Nat.le_succ _) new, rfl, finL rl q hR _ hn⟩
    · cases hp
  | _ => cases hp
theorem cr_reprP (hg : X.A.guards = some []) (hu : X.A.units + 66 < cLine) : CallR X (.builtin "repr") (rPb X.K B .repr 1) := by
  intro pins s σ H vs us Q I r h
  obtain ⟨x, rfl, σ', F, env, a, d, rl, ha, hp, q⟩ := rPl_in h.2 h.1
  have hp : qRepr a = some d := hp
  unfold qRepr reprOk at hp
  split at hp
  · rename_i hz
    simp only [Bool.and_eq_true, decide_eq_true_eq, Bool.not_eq_true'] at hz
    obtain ⟨⟨⟨h1, h2⟩, h3⟩, h4⟩ := hz
    cases hp
    obtain ⟨u, rfl, rx⟩ := vals1 r
    obtain ⟨as, rd⟩ := ha.reads I rl.fh rx
    have fin : ∀ (h' : Heap) (t : Tok) (tk : Nat), (∀ b o, s.heap.get? b = some o → h'.get? b = some o) → EP X pins σ Q (.str a.shown t) { s with heap := h', toks := tk } := fun h' t tk k =>
      ⟨.str _, H, I.kept (t' := tk) k, ⟨t, rfl⟩, fin0 rl q (.str _)⟩
    cases rd with
    | none => exact PySem.P.repr_of_none (fin _ _ _ fun _ _ e => e)
    | bool b => exact PySem.P.repr_of_bool (fin _ _ _ fun _ _ e => e)
    | int i t => exact PySem.P.repr_of_int (of_decide_eq_true h1) (fin _ _ _ fun _ _ e => e)
    | str z t => exact PySem.P.repr_of_str (fin _ _ _ fun _ _ e => e) (sz_le h4)
    | list k1 k2 k3 k4 => exact repr_of_reads' (.list k1 k2 k3 k4) h1 (fun z => by rw [h2] at z; cases z) hg (by omega) (fun _ _ e => e) (fun h' t tk k => fin h' t tk k) (sz_le h4)
    | tuple k1 k2 k3 k4 => exact repr_of_reads' (.tuple k1 k2 k3 k4) h1 (fun z => by rw [h2] at z; cases z) hg (by omega) (fun _ _ e => e) (fun h' t tk k => fin h' t tk k) (sz_le h4)
    | dict k1 k2 k3 k4 k5 => simp [PyData.hasDict] at h2
  · cases hp
/-- isinstance(x, T) -/
theorem cr_isiP (T : String) : CallR X (.builtin "isinstance") (fun vs H Q => ∃ x, vs = [x, .ty T] ∧ rP X.K B (.isi T) [x] H Q) := by
  intro pins s σ H vs us Q I r h
  obtain ⟨x, rfl, h⟩ := h
  obtain ⟨σ', F, env, a, d, rl, ha, hp, q⟩ := rP1_in h
  obtain ⟨k, e, rfl⟩ := Option.map_eq_some_iff.mp (show (isiD T a).map PyData.bool = some d from hp)
  cases r with
  | cons rx rt =>
    cases rt with
    | cons rt rn =>
      cases rn
      cases rt
      obtain ⟨as, rd⟩ := ha.reads I rl.fh rx
      have fin : ∀ (tk : Nat), EP X pins σ Q (.bool k) { s with toks := tk } := fun tk => ⟨.bl _, H, I.tok _, rfl, fin0 rl q (.bl _)⟩
      unfold isiD at e
      split at e
      · rename_i t; subst t; cases e; exact PySem.W.isinstance_int_data rd fun tk _ => fin tk
      · split at e
        · rename_i t; subst t; cases e; exact PySem.W.isinstance_bool_data rd fun tk _ => fin tk
        · split at e
          · rename_i t; subst t; cases e; exact PySem.W.isinstance_str_data rd fun tk _ => fin tk
          · split at e
            · rename_i t; subst t; cases e; exact PySem.W.isinstance_list_data rd fun tk _ => fin tk
            · split at e
              · rename_i t; subst t; cases e; exact PySem.W.isinstance_tuple_data rd fun tk _ => fin tk
              · split at e
                · rename_i t; subst t; cases e; exact PySem.W.isinstance_dict_data rd fun tk _ => fin tk
                · cases e
/-- a slice's reading -/
def rS (K : PySem.W.Frag) (B : Bs) : V → Option Int → Option Int → Hp → VK → Prop := fun x lo hi H Q => ∃ σ F env a d, Rl K B F env σ H ∧ Bo K F H x a ∧ qSl a lo hi = some d ∧ ∀ v F' H', Stp K B σ F env H F' env H' → Rp K F' v d → Q v H'
theorem cut_rp {K : PySem.W.Frag} {F : Hp} {vs : List V} {ds : List D} (h : RpAll K F vs ds) (lo hi : Option Int) : RpAll K F (cutV vs lo hi) (cutD ds lo hi) := by
  unfold cutV cutD
  rw [RpAll.length h]
  exact RpAll.take _ (RpAll.drop _ h)
theorem slP : SlR X (rS X.K B) := by
  intro pins s σ H x v vl vu lo hi sl Q I rx hs pl pu h
  obtain ⟨σ', F, env, a, d, rl, ha, hp, q⟩ := h
  cases a with
  | list ds =>
    cases hp
    obtain ⟨l, ws, rfl, h1, g⟩ := ha.lst rl.fh
    exact sl_list pins s σ H _ v vl vu lo hi sl Q I rx hs pl pu ⟨l, ws, rfl, .inl h1, finL rl q (cut_rp g lo hi)⟩
  | tuple ds =>
    cases hp
    obtain ⟨l, ws, rfl, h1, g, h2⟩ := ha.tup rl.fh
    refine sl_tupA pins s σ H _ v vl vu lo hi sl Q I rx hs pl pu ⟨l, ws, rfl, h1, fun e => ?_, fun _ => finT rl q (cut_rp g lo hi)⟩
    refine fin0 rl q (.tup h2 ?_)
    have hc := cut_rp g lo hi
    have e1 : cutV ws lo hi = ws := by
      unfold cutV
      rw [e.1, e.2]
      simp
    rw [e1] at hc
    exact hc
  | _ => cases hp
end
end PD

/-! PD9: what a def of the small language promises, and its call. -/
namespace PD
open PySem PySem.Spec PyProof.Rows L2

structure Post (K : PySem.W.Frag) (g : Option Addr) (F H F' H' : Hp) (gs : List D) : Prop where
  ff : Same F F'
  fh : Same F' H'
  fresh : ∀ b o, H b = some o → F b = none → F' b = none
  keep : ∀ b o, H b = some o → g ≠ some b → H' b = some o
  nz : ∀ b o u, F' b = some (.frz o u) → F b = some (.frz o u)
  gout : ∀ a, g = some a → ∃ us, H' a = some (.lst us) ∧ F' a = none ∧ RpAll K F' us gs
/-- a def that changes none of its arguments -/
def sp0 (K : PySem.W.Frag) (C : List D → Option (D × List D)) : Sp := fun vs H Q _ => ∃ F ds d gs, Same F H ∧ RpAll K F vs ds ∧ C ds = some (d, gs) ∧ ∀ v F' H', Post K none F H F' H' [] → Rp K F' v d → Q v H'
/-- a def that changes the list that is its first argument -/
def sp1 (K : PySem.W.Frag) (C : List D → Option (D × List D)) : Sp := fun vs H Q _ => ∃ F a us gs r dr d gs', vs = .ref a :: r ∧ Same F H ∧ H a = some (.lst us) ∧ F a = none ∧ RpAll K F us gs ∧ RpAll K F r dr ∧ C (.list gs :: dr) = some (d, gs') ∧
  ∀ v F' H', Post K (some a) F H F' H' gs' → Rp K F' v d → Q v H'
def spB (K : PySem.W.Frag) (m : Bool) (C : List D → Option (D × List D)) : Sp := if m then sp1 K C else sp0 K C

/-- the promise, where no repr runs around -/
structure FG (P : Program) (w : World) (K : PySem.W.Frag) (mg : Str → Option Value) (base : Heap) (CX : CXT) (k : Nat) (f : Addr) (fd : FuncData) (ps : List Str) (sp : Sp) : Prop where
  len : ∀ vs H Q E, sp vs H Q E → vs.length = ps.length
  run : ∀ (A : Around) (outer : List Env) (s : Shared) (H : Hp) (args : Args) (us : List Value) (vs : List V) (Q : VK) (E : XK), A.guards = some [] → Room k A →
    Env0 P w K mg base A outer s H → BindsTo s fd args (ps.zip us) → Vals vs us → sp vs H Q E → codeAny (model P w) A (.call (.ref f) args) (CR CX outer P w H s Q E) s

section
variable {X : Cx} {CX : CXT} {k : Nat} {f : Addr} {fd : FuncData} {ps : List Str} {sp : Sp} {E : XK} {x : Str} {p pos : Pos} {e : Expr} {es : List Expr} {t : TA}
theorem FG.mono {P : Program} {w : World} {K : PySem.W.Frag} {mg : Str → Option Value} {base : Heap} {j : Nat} (F : FG P w K mg base CX j f fd ps sp) (h : j ≤ k) : FG P w K mg base CX k f fd ps sp :=
  ⟨F.len, fun A outer s H args us vs Q E hg hr => F.run A outer s H args us vs Q E hg (hr.mono h)⟩
theorem run_g {pins : List (Addr × Obj)} {σ : L2.St} {H : Hp} {s : Shared} {Q : VK} {us : List Value} {vs : List V} (F : FG X.prog X.w X.K X.mg X.base CX k f fd ps sp) (hg : X.A.guards = some []) (hr : Room k X.A) (hb : Binds X.K fd ps []) (hx : Passes CX X E)
    (I : Inv X pins σ H s) (r : Vals vs us) (h : sp vs H Q E) : wpAny (model X.prog X.w) X.A (call (.ref f) us) (EP X pins σ Q) X.xe s := by
  have hl : us.length = ps.length := by
    rw [← r.length]
    exact F.len _ _ _ _ h
  have bt := hb s us I.kIn (by rw [List.append_nil]; exact hl)
  rw [List.append_nil] at bt
  have c := F.run X.A X.stack s H ⟨us, []⟩ us vs Q E hg hr I.env0 bt r h
  refine wpAny_call (codeAny_mono c fun res s' hq => ?_)
  match res, hq with
  | .error e, hq => exact hx pins σ H s e s' I hq
  | .ok (.ret u), hq => exact I.after hq
  | .ok .next, hq => exact False.elim hq
  | .ok .brk, hq => exact False.elim hq
  | .ok .cont, hq => exact False.elim hq
theorem star_cons {env : Env} (h : notStar e = true) : starEach (e :: es) env = (false, eval e env) :: starEach es env := by
  cases e <;> first | rfl | cases h
theorem star_none (pos : Pos) (env : Env) : ∀ {es : List Expr}, es.all notStar = true → (backTo pos (starEach es env)).any (·.1) = false
  | [], _ => rfl
  | e :: es, h => by
    rw [List.all_cons, Bool.and_eq_true] at h
    rw [star_cons h.1]
    have ih := star_none pos env h.2
    unfold backTo at ih ⊢
    rw [List.map_cons, List.any_cons, ih]
    rfl
theorem pe_callG (F : FG X.prog X.w X.K X.mg X.base CX k f fd ps sp) (hgd : X.A.guards = some []) (hr : Room k X.A) (hg : Gl X x) (hm : X.mg x = some (.ref f)) (hk : PySem.W.keepIn X.K (.ref f) = true) (hb : Binds X.K fd ps []) (hx : Passes CX X E)
    (ha : PA X (e :: es) t) (hdb : (x == ("__debug__" : Str)) = false) (hs : (e :: es).all notStar = true) : PE X (.Call (.Name x p) (e :: es) [] pos) (fun σ H Q => t σ H fun vs H1 => sp vs H1 Q E) := by
  refine ⟨fun pins s σ H Q I h => wpAny_Call_Name_kw (ld_glob I hg hm ?_ hdb)⟩
  rw [List.all_cons, Bool.and_eq_true] at hs
  refine PySem.W.callWith_K (h₀ := X.base) I.ok.mod.kin hk (thn (ha.run pos pins s σ H _ I h) fun us s1 ⟨vs, H1, I1, r, q⟩ => ⟨I1.kIn, run_g F hgd hr hb hx I1 r q⟩) (star_cons hs.1) (star_none _ _ hs.2)
theorem pe_callG0 (F : FG X.prog X.w X.K X.mg X.base CX k f fd ps sp) (hgd : X.A.guards = some []) (hr : Room k X.A) (hg : Gl X x) (hm : X.mg x = some (.ref f)) (hk : PySem.W.keepIn X.K (.ref f) = true) (hb : Binds X.K fd ps []) (hx : Passes CX X E)
    (hdb : (x == ("__debug__" : Str)) = false) : PE X (.Call (.Name x p) [] [] pos) (fun σ H Q => sp [] H Q E) :=
  ⟨fun pins s σ H Q I h => wpAny_Call_Name_kw (ld_glob I hg hm (PySem.W.callWith_K0 I.kIn hk (run_g (us := []) F hgd hr hb hx I .nil h)) hdb)⟩
end

section
variable {K : PySem.W.Frag} {B : Bs} {σ : L2.St} {F F' H H' : Hp} {env : En}
/-- behind a call -/
theorem Rl.called (r : Rl K B F env σ H) (p : Post K none F H F' H' []) : Stp K B σ F env H F' env H' := by
  have kp : ∀ b o, H b = some o → H' b = some o := fun b o e => p.keep b o e nofun
  refine ⟨⟨p.fh, r.f0.trans p.ff, fun b o e z => ?_, fun b o e z => kp b o (r.keep b o e z), fun a e => ?_, fun i => (r.sl i).mono p.ff fun a m e => ?_, r.sep, r.len, fun b o u e => r.nz b o u (p.nz b o u e)⟩, p.ff, fun b o e _ => kp b o e, fun _ h => h, fun b o e f _ => p.fresh b o e f⟩
  · have nF := r.fresh b o e z
    by_cases hg : B.g = some b
    · obtain ⟨o', e'⟩ := r.gk b hg
      exact p.fresh b o' e' nF
    · exact p.fresh b o (r.keep b o e hg) nF
  · obtain ⟨o, q⟩ := r.gk a e
    exact ⟨o, kp a o q⟩
  · obtain ⟨vs, q1, q2⟩ := (r.sl i).tracked m e
    rw [kp a _ q1, q1, p.fresh a _ q1 q2, q2]
    exact ⟨rfl, rfl⟩
/-- a slot's list, its address and its new content behind a call -/
def setG (s : Slot) (gs : List D) : Slot := match s with
  | .own _ => .own gs
  | .brw _ => .brw gs
  | s => s
theorem Rl.calledG (r : Rl K B F env σ H) {i : Nat} {a : Addr} {gs : List D} (m : isMut (slot env i) = true) (e : svAt σ i = some (.ref a)) (p : Post K (some a) F H F' H' gs) : Stp K B σ F env H F' (env.set i (setG (slot env i) gs)) H' := by
  have hl := mut_lt m
  have kp : ∀ b o, b ≠ a → H b = some o → H' b = some o := fun b o n e => p.keep b o e fun z => n (Option.some.inj z).symm
  obtain ⟨us, g1, g2, g3⟩ := p.gout a rfl
  have hi := r.sl i
  obtain ⟨vs0, h1, h2⟩ := hi.tracked m e
  have mset : ∀ j, isMut (slot (env.set i (setG (slot env i) gs)) j) = true → isMut (slot env j) = true := fun j mj => by
    by_cases hj : j = i
    · rw [hj]; exact m
    · rw [slot_set_ne hj] at mj; exact mj
  refine ⟨⟨p.fh, r.f0.trans p.ff, fun b o q z => ?_, fun b o q z => ?_, fun b q => ?_, fun j => ?_, fun j k b m1 m2 => r.sep j k b (mset j m1) (mset k m2), by rw [List.length_set]; exact r.len, fun b o u e => r.nz b o u (p.nz b o u e)⟩, p.ff, fun b o q n => ?_, mset, fun b o q f _ => p.fresh b o q f⟩
  · have nF := r.fresh b o q z
    by_cases hg : B.g = some b
    · obtain ⟨o', e'⟩ := r.gk b hg
      exact p.fresh b o' e' nF
    · exact p.fresh b o (r.keep b o q hg) nF
  · have q' := r.keep b o q z
    refine kp b o (fun hb => ?_) q'
    subst hb
    cases hs : slot env i with
    | no => rw [hs] at m; cases m
    | val d => rw [hs] at m; cases m
    | own ds =>
      rw [hs] at hi
      obtain ⟨c, ws, e1, _, _, e4, _⟩ := hi
      rw [e] at e1; cases e1
      rw [e4] at q; cases q
    | brw ds =>
      rw [hs] at hi
      obtain ⟨c, ws, e1, e2, _⟩ := hi
      rw [e] at e1; cases e1
      exact z e2
  · obtain ⟨o, q'⟩ := r.gk b q
    by_cases hb : b = a
    · subst hb; exact ⟨_, g1⟩
    · exact ⟨o, kp b o hb q'⟩
  · by_cases hj : j = i
    · subst hj
      rw [slot_set_same hl]
      cases hs : slot env j with
      | no => rw [hs] at m; cases m
      | val d => rw [hs] at m; cases m
      | own ds =>
        rw [hs] at hi
        obtain ⟨c, ws, e1, _, _, e4, _⟩ := hi
        rw [e] at e1; cases e1
        exact ⟨a, us, e, g1, g2, e4, g3⟩
      | brw ds =>
        rw [hs] at hi
        obtain ⟨c, ws, e1, e2, _⟩ := hi
        rw [e] at e1; cases e1
        exact ⟨a, us, e, e2, g1, g2, g3⟩
    · rw [slot_set_ne hj]
      refine (r.sl j).mono p.ff fun b mj q => ?_
      obtain ⟨vs, q1, q2⟩ := (r.sl j).tracked mj q
      have nb : b ≠ a := fun z => hj (r.sep j i a mj m (by rw [← z]; exact q) e)
      rw [kp b _ nb q1, q1, p.fresh b _ q1 q2, q2]
      exact ⟨rfl, rfl⟩
  · refine kp b o (fun z => n ⟨i, m, ?_⟩) q
    rw [z]; exact e
end
end PD

/-! PD10: names, targets, what is walked. -/
namespace PD
open PySem PySem.Spec PyProof.Rows L2

/-- a call by names -/
def KB (K : PySem.W.Frag) (fd : FuncData) (ps ks : List Str) (perm : List Nat) : Prop := ∀ (s : Shared) (ws us : List Value), K.In s.heap → ws.length = ks.length → perm.mapM (fun i => ws[i]?) = some us → BindsTo s fd ⟨[], ks.zip ws⟩ (ps.zip us)
structure GOk (P : Program) (w : World) (K : PySem.W.Frag) (mg : Str → Option Value) (base : Heap) (Γ : Gm) (C : Nat → List D → Option (D × List D)) (k : Nat) : Prop where
  defs : ∀ x i ps m, Γ.defs.lookup x = some (i, ps, m) → ∃ f fd, mg x = some (.ref f) ∧ PySem.W.keepIn K (.ref f) = true ∧ Binds K fd ps [] ∧ FG P w K mg base CX0 k f fd ps (spB K m (C i))
  kws : ∀ x i ps ks perm, Γ.defs.lookup x = some (i, ps, false) → (x, ks, perm) ∈ Γ.kws → ∃ f fd, mg x = some (.ref f) ∧ PySem.W.keepIn K (.ref f) = true ∧ KB K fd ps ks perm ∧ FG P w K mg base CX0 k f fd ps (spB K false (C i))
  cons : ∀ x d, Γ.cons.lookup x = some d → ∃ v u, mg x = some u ∧ RelV v u ∧ Rp K (fun _ => none) v d
  blts : ∀ x, Γ.blts.contains x = true → mg x = none
structure Sx (X : Cx) (N : List Str) (Γ : Gm) (C : Nat → List D → Option (D × List D)) (k : Nat) (sc : Scope) : Prop where
  hN : X.N = N
  nd : N.Nodup
  hsc : X.env.scope = sc
  calm : X.calm = true
  room : Room k X.A
  gd : X.A.guards = some []
  gok : GOk X.prog X.w X.K X.mg X.base Γ C k
section
variable {X : Cx} {N : List Str} {Γ : Gm} {C : Nat → List D → Option (D × List D)} {k : Nat} {sc : Scope} {B : Bs}
theorem Sx.hu (S : Sx X N Γ C k sc) : X.A.units + 66 < cLine := Nat.lt_of_le_of_lt (by omega : X.A.units + 66 ≤ X.A.units + 16 * k + 200) S.room.un
theorem Sx.blk (S : Sx X N Γ C k sc) (s : Shared) (H : Hp) (scope : Scope) (D : Addr) (cl : List (Str × Addr)) (fp : List Addr) : Sx (X.blk s H scope (compEnvC scope cl D X.env) fp) N Γ C k (relS scope sc) :=
  ⟨S.hN, S.nd, by rw [← S.hsc]; rfl, S.calm, S.room, S.gd, S.gok⟩

theorem sv_of {σ : L2.St} {i : Nat} {v : V} (h : svAt σ i = some v) : σ[i]? = some (some v) := by
  unfold svAt at h
  cases e : σ[i]? with
  | none => rw [e] at h; cases h
  | some o =>
    rw [e] at h
    have h' : o = some v := h
    rw [h']
theorem sv_to {σ : L2.St} {i : Nat} {v : V} (h : σ[i]? = some (some v)) : svAt σ i = some v := by
  unfold svAt
  rw [h]; rfl
/-- a slot that is a value -/
theorem pe_varE {x : Str} {i : Nat} {pos : Pos} (hN : X.N[i]? = some x) (hv : Vis X.env.scope x) (ho : oddName x = false) : PE X (.Name x pos) (tE X.K B C (.var i)) ∧ PE X (.Name x pos) (tO X.K B C (.var i)) := by
  have h1 : (x == ("__debug__" : Str)) = false := by
    unfold oddName at ho
    rw [Bool.or_eq_false_iff, Bool.or_eq_false_iff] at ho
    exact ho.1.1
  have h2 : (x == ("__classdict__" : Str)) = false := by
    unfold oddName at ho
    rw [Bool.or_eq_false_iff, Bool.or_eq_false_iff] at ho
    exact ho.1.2
  have base : PE X (.Name x pos) (tVar i) := pe_var hN hv h1 h2
  refine ⟨PE.imp base fun σ H Q ⟨F, env, r, d, env', e, q⟩ => ?_, PE.imp base fun σ H Q ⟨F, env, r, o, env', e, q⟩ => ?_⟩
  · simp only [ev] at e
    unfold rdF at e
    have hs := r.sl i
    cases hq : slot env i with
    | no => rw [hq] at e; cases e
    | brw ds => rw [hq] at e; cases e
    | val d' =>
      rw [hq] at e hs
      cases e
      obtain ⟨v, e1, e2⟩ := hs
      exact ⟨v, sv_of e1, q v F H (Stp.refl r) e2⟩
    | own ds =>
      rw [hq] at e
      cases e
      obtain ⟨a, F', e1, s, hd⟩ := r.freeze hq
      exact ⟨_, sv_of e1, q _ F' H s hd⟩
  · unfold opd at e
    have hs := r.sl i
    have e : (if isMut (slot env i) = true then some (Sum.inr i, env) else (ev C (.var i) env).map fun p => (Sum.inl p.1, p.2)) = some (o, env') := e
    split at e
    · rename_i m
      cases e
      cases hq : slot env i with
      | no => rw [hq] at m; cases m
      | val d => rw [hq] at m; cases m
      | own ds =>
        rw [hq] at hs
        obtain ⟨a, vs, e1, _⟩ := hs
        exact ⟨_, sv_of e1, q _ F H (Stp.refl r) e1⟩
      | brw ds =>
        rw [hq] at hs
        obtain ⟨a, vs, e1, _⟩ := hs
        exact ⟨_, sv_of e1, q _ F H (Stp.refl r) e1⟩
    · rename_i m
      obtain ⟨⟨d, env''⟩, e1, e2⟩ := Option.map_eq_some_iff.mp e
      cases e2
      simp only [ev] at e1
      unfold rdF at e1
      cases hq : slot env i with
      | no => rw [hq] at e1; cases e1
      | brw ds => rw [hq] at e1; cases e1
      | own ds => rw [hq] at m; exact absurd rfl m
      | val d' =>
        rw [hq] at e1 hs
        cases e1
        obtain ⟨v, e1, e2⟩ := hs
        exact ⟨v, sv_of e1, q v F H (Stp.refl r) e2⟩
/-- an operand that is no name -/
theorem tO_of {K : PySem.W.Frag} {p : Ex} (hp : ∀ i, p ≠ .var i) {σ : L2.St} {H : Hp} {Q : VK} (h : tO K B C p σ H Q) : tE K B C p σ H Q := by
  obtain ⟨F, env, r, o, env', e, q⟩ := h
  have e : (ev C p env).map (fun p => (Sum.inl p.1, p.2)) = some (o, env') := by
    unfold opd at e
    cases p with
    | var i => exact absurd rfl (hp i)
    | _ => exact e
  obtain ⟨⟨d, env''⟩, e1, e2⟩ := Option.map_eq_some_iff.mp e
  cases e2
  exact ⟨F, env, r, d, _, e1, fun v F' H' s h => q v F' H' s h⟩
theorem pe_conE {e : Expr} {v : V} {d : D} (h : PE X e (tC v)) (hd : Rp X.K (fun _ => none) v d) : PE X e (tE X.K B C (.con d)) := by
  refine PE.imp h fun σ H Q ⟨F, env, r, d', env', e, q⟩ => ?_
  have e : some (d, env) = some (d', env') := by simpa [ev] using e
  cases e
  exact q v F H (Stp.refl r) (Rp.mono (fun _ _ z => by cases z) _ _ hd)

/-! ### targets -/
/-- a target's reading -/
def tG (K : PySem.W.Frag) (B : Bs) (tg : Tg) : TG := fun v σ H Q => ∃ F env d env1, Rl K B F env σ H ∧ Rp K F v d ∧ asg tg d env = some env1 ∧ ∀ σ1, Rl K B F env1 σ1 H → (∀ l, tgIn l tg = true → ∀ j, j ∉ l → σ1[j]? = σ[j]?) → Q σ1 H
def tGs (K : PySem.W.Frag) (B : Bs) (ts : List Tg) : TGs := fun vs σ H Q => ∃ F env ds env1, Rl K B F env σ H ∧ RpAll K F vs ds ∧ asgs ts ds env = some env1 ∧ ∀ σ1, Rl K B F env1 σ1 H → (∀ l, tgsIn l ts = true → ∀ j, j ∉ l → σ1[j]? = σ[j]?) → Q σ1 H
section
variable {K : PySem.W.Frag} {σ : L2.St} {F H : Hp} {env : En}
theorem sv_set_same {i : Nat} {v : V} (h : i < σ.length) : svAt (σ.set i (some v)) i = some v := by
  unfold svAt
  rw [List.getElem?_set_self h]; rfl
theorem sv_set_ne {i j : Nat} {o : Option V} (h : j ≠ i) : svAt (σ.set i o) j = svAt σ j := by
  unfold svAt
  rw [List.getElem?_set_ne (Ne.symm h)]
/-- a slot gets a value -/
theorem Rl.setV (r : Rl K B F env σ H) {i : Nat} {v : V} {d : D} (hi : i < env.length) (h : Rp K F v d) : Rl K B F (env.set i (.val d)) (σ.set i (some v)) H := by
  have hl : i < σ.length := by rw [← r.len]; exact hi
  have mo : ∀ j, isMut (slot (env.set i (.val d)) j) = true → j ≠ i ∧ isMut (slot env j) = true := fun j m => by
    by_cases hj : j = i
    · subst hj; rw [slot_set_same hi] at m; cases m
    · rw [slot_set_ne hj] at m; exact ⟨hj, m⟩
  refine ⟨r.fh, r.f0, r.fresh, r.keep, r.gk, fun j => ?_, fun j k a m1 m2 e1 e2 => ?_, by rw [List.length_set, List.length_set]; exact r.len, r.nz⟩
  · by_cases hj : j = i
    · subst hj; rw [slot_set_same hi, sv_set_same hl]; exact ⟨v, rfl, h⟩
    · rw [slot_set_ne hj, sv_set_ne hj]; exact r.sl j
  · rw [sv_set_ne (mo j m1).1] at e1
    rw [sv_set_ne (mo k m2).1] at e2
    exact r.sep j k a (mo j m1).2 (mo k m2).2 e1 e2
end
theorem asgs_len : ∀ {ts : List Tg} {ds : List D} {env env1 : En}, asgs ts ds env = some env1 → ts.length = ds.length
  | [], [], _, _, _ => rfl
  | [], _ :: _, _, _, h => by simp [asgs] at h
  | _ :: _, [], _, _, h => by simp [asgs] at h
  | t :: ts, d :: ds, env, env1, h => by
    rw [asgs] at h
    obtain ⟨e1, _, h2⟩ := Option.bind_eq_some_iff.mp h
    rw [List.length_cons, List.length_cons, asgs_len h2]
theorem cTg_plain {sct : Scope} : ∀ {n : Nat} {e : Expr} {t : Tg}, cTg N sct n e = some t → (∃ x p, e = .Name x p) ∨ ∃ es k p, e = .Tuple es k p
  | 0, _, _, h => by cases h
  | n + 1, e, t, h => by
    cases e with
    | Name x p => exact .inl ⟨_, _, rfl⟩
    | Tuple es k p => exact .inr ⟨_, _, _, rfl⟩
    | _ => simp [cTg] at h
theorem each_len {env : Env} {sct : Scope} : ∀ {n : Nat} {es : List Expr} {ts : List Tg}, cTgs N sct n es = some ts → (assignEach es env).length = ts.length ∧ (assignEach es env).findIdx? (·.1) = none
  | 0, _, _, h => by cases h
  | n + 1, [], ts, h => by
    rw [cTgs] at h
    cases h
    exact ⟨rfl, rfl⟩
  | n + 1, e :: r, ts, h => by
    rw [cTgs] at h
    obtain ⟨t, h1, h⟩ := Option.bind_eq_some_iff.mp h
    obtain ⟨us, h2, rfl⟩ := Option.map_eq_some_iff.mp h
    obtain ⟨k1, k2⟩ := each_len (env := env) h2
    have e1 : assignEach (e :: r) env = (false, assign e env) :: assignEach r env := by
      rcases cTg_plain h1 with ⟨x, p, rfl⟩ | ⟨es, k, p, rfl⟩ <;> rfl
    rw [e1]
    refine ⟨by rw [List.length_cons, List.length_cons, k1], ?_⟩
    rw [List.findIdx?_cons, k2]
    rfl
variable (X) in
/-- names that may be stored in -/
def Sto (sct : Scope) : Prop := ∀ x, locB sct x = true → Loc X.env.scope x ∧ (X.fn x = true ∨ X.env.scope.names.lookup x = some .local)
theorem tg_ok {sct : Scope} (S : Sx X N Γ C k sc) (st : Sto X sct) : ∀ n, (∀ e t, cTg N sct n e = some t → PG X e (tG X.K B t)) ∧ (∀ es ts, cTgs N sct n es = some ts → PGs X es (tGs X.K B ts))
  | 0 => ⟨fun _ _ h => (by cases h), fun _ _ h => (by cases h)⟩
  | n + 1 => by
    obtain ⟨ih1, ih2⟩ := tg_ok S st n
    refine ⟨fun e t h => ?_, fun es ts h => ?_⟩
    · cases e with
      | Name x p =>
        simp only [cTg] at h
        split at h
        · rename_i hc
          rw [Bool.and_eq_true] at hc
          obtain ⟨i, hi, rfl⟩ := Option.map_eq_some_iff.mp h
          obtain ⟨s1, s2⟩ := st x hc.1
          have hx : X.N[i]? = some x := by rw [S.hN]; exact ixOf_get hi
          have b := pg_name (X := X) (pos := p) (by rw [S.hN]; exact S.nd) hx s1 s2
          refine ⟨fun pins s σ H v u Q I rv hw => b.run pins s σ H v u Q I rv ?_⟩
          obtain ⟨F, env, d, env1, r, hd, ha, q⟩ := hw
          rw [asg] at ha
          split at ha
          · cases ha
          · split at ha
            · rename_i hl
              cases ha
              refine q _ (r.setV hl hd) fun l hin j hj => ?_
              have hin : l.contains i = true := by simpa [tgIn] using hin
              have : j ≠ i := fun z => hj (by rw [z]; simpa using hin)
              rw [List.getElem?_set_ne (Ne.symm this)]
            · cases ha
        · cases h
      | Tuple es kk p =>
        simp only [cTg] at h
        obtain ⟨ts, hts, rfl⟩ := Option.map_eq_some_iff.mp h
        obtain ⟨l1, l2⟩ := each_len (env := X.env) hts
        have b := pg_tup (X := X) (k := kk) (pos := p) S.calm (ih2 es ts hts) l1 l2
        refine ⟨fun pins s σ H v u Q I rv hw => b.run pins s σ H v u Q I rv ?_⟩
        obtain ⟨F, env, d, env1, r, hd, ha, q⟩ := hw
        cases d with
        | tuple ds =>
          cases hd with
          | tup h1 h2 =>
            rw [asg] at ha
            refine ⟨_, _, rfl, SqT.mono r.fh h1, ?_, F, env, ds, env1, r, h2, ha, fun σ1 r1 k1 => q σ1 r1 fun l hl => k1 l (by simpa [tgIn] using hl)⟩
            rw [RpAll.length h2, asgs_len ha]
        | _ => simp [asg] at ha
      | _ => simp [cTg] at h
    · cases es with
      | nil =>
        rw [cTgs] at h
        cases h
        refine ⟨fun pins s σ H vs us Q I rv hw => pgs_nil.run pins s σ H vs us Q I rv ?_⟩
        obtain ⟨F, env, ds, env1, r, hd, ha, q⟩ := hw
        cases ds with
        | nil =>
          cases hd
          rw [asgs] at ha
          cases ha
          exact ⟨rfl, q σ r fun _ _ _ _ => rfl⟩
        | cons d ds => simp [asgs] at ha
      | cons e es =>
        rw [cTgs] at h
        obtain ⟨t, h1, h⟩ := Option.bind_eq_some_iff.mp h
        obtain ⟨us, h2, rfl⟩ := Option.map_eq_some_iff.mp h
        have e1 : (assignEach (e :: es) X.env).map (·.2) = assign e X.env :: (assignEach es X.env).map (·.2) := by
          rcases cTg_plain h1 with ⟨x, p, rfl⟩ | ⟨es, k, p, rfl⟩ <;> rfl
        have b := pgs_cons (ih1 e t h1) (ih2 es us h2) e1
        refine ⟨fun pins s σ H vs ws Q I rv hw => b.run pins s σ H vs ws Q I rv ?_⟩
        obtain ⟨F, env, ds, env1, r, hd, ha, q⟩ := hw
        cases ds with
        | nil => simp [asgs] at ha
        | cons d ds =>
          cases hd with
          | cons hd1 hd2 =>
            rw [asgs] at ha
            obtain ⟨env2, a1, a2⟩ := Option.bind_eq_some_iff.mp ha
            refine ⟨_, _, rfl, F, env, d, env2, r, hd1, a1, fun σ1 r1 k1 => ⟨F, env2, ds, env1, r1, hd2, a2, fun σ2 r2 k2 => q σ2 r2 fun l hl j hj => ?_⟩⟩
            have hl : tgIn l t = true ∧ tgsIn l us = true := by simpa [tgsIn] using hl
            rw [k2 l hl.2 j hj, k1 l hl.1 j hj]
end
end PD

/-! PD11: what is walked. -/
namespace PD
open PySem PySem.Spec PyProof.Rows L2

/-- J walks items that read as xs, as long as what F tracks stands -/
structure ItOk (K : PySem.W.Frag) (J : It) (F : Hp) (xs : List D) : Prop where
  go : ∀ i H, Same F H → i < xs.length → J.go i H
  stop : ∀ i H, Same F H → xs.length ≤ i → J.stop i H
  yld : ∀ i d H x H3, Same F H → xs[i]? = some d → J.yld i H x H3 → ∀ B σ F1 env, Same F F1 → Rl K B F1 env σ H → ∃ F2, Stp K B σ F1 env H F2 env H3 ∧ Rp K F2 x d
section
variable (K : PySem.W.Frag) (B : Bs) (C : Nat → List D → Option (D × List D))
def tI (ik : IK) (ps : List Ex) : TI := fun σ H R => ∃ F env, Rl K B F env σ H ∧ ∃ ds env' xs, evL C ps env = some (ds, env') ∧ items ik ds = some xs ∧ ∀ J F' H', Stp K B σ F env H F' env' H' → ItOk K J F' xs → R J H'
end
section
variable {X : Cx} {N : List Str} {Γ : Gm} {C : Nat → List D → Option (D × List D)} {k : Nat} {sc : Scope} {B : Bs}
theorem lst_rd {K : PySem.W.Frag} {F : Hp} {v : V} {ds : List D} (h : Rp K F v (.list ds)) : ∃ a vs, v = .ref a ∧ Rd F a (.lst vs) ∧ RpAll K F vs ds := by
  cases h with
  | lst h1 h2 => exact ⟨_, _, rfl, h1, h2⟩
theorem rd_one {H : Hp} {a : Addr} {xs ys : List V} (h1 : Rd H a (.lst xs)) (h2 : Rd H a (.lst ys)) : xs = ys := by
  rcases h1 with h1 | ⟨o, h1⟩ <;> rcases h2 with h2 | ⟨o', h2⟩ <;> rw [h1] at h2 <;> cases h2 <;> rfl
/-- a list that is walked -/
theorem itl_ok {K : PySem.W.Frag} {F : Hp} {a : Addr} {vs : List V} {ds : List D} (h : Rd F a (.lst vs)) (g : RpAll K F vs ds) : ItOk K (Itl K a) F ds where
  go := fun i H s hi => by
    obtain ⟨v, e1, _⟩ := RpAll.get g (List.getElem?_eq_getElem hi)
    exact ⟨vs, v, .inl (Rd.mono s h), e1⟩
  stop := fun i H s hi => ⟨vs, .inl (Rd.mono s h), by rw [RpAll.length g]; exact hi⟩
  yld := fun i d H x H3 s e ⟨e1, e2⟩ B σ F1 env ff r => by
    subst e1
    obtain ⟨v, q1, q2⟩ := RpAll.get g e
    have q3 := e2 vs (.inl (Rd.mono s h))
    rw [q1] at q3; cases q3
    exact ⟨F1, Stp.refl r, Rp.mono ff _ _ q2⟩
theorem itt_ok {K : PySem.W.Frag} {F : Hp} {a : Addr} {vs : List V} {ds : List D} (h : SqT K F a vs) (g : RpAll K F vs ds) : ItOk K (Itt K a) F ds where
  go := fun i H s hi => by
    obtain ⟨v, e1, _⟩ := RpAll.get g (List.getElem?_eq_getElem hi)
    exact ⟨vs, v, SqT.mono s h, e1⟩
  stop := fun i H s hi => ⟨vs, SqT.mono s h, by rw [RpAll.length g]; exact hi⟩
  yld := fun i d H x H3 s e ⟨e1, e2⟩ B σ F1 env ff r => by
    subst e1
    obtain ⟨v, q1, q2⟩ := RpAll.get g e
    have q3 := e2 vs (SqT.mono s h)
    rw [q1] at q3; cases q3
    exact ⟨F1, Stp.refl r, Rp.mono ff _ _ q2⟩
theorem itr_ok {K : PySem.W.Frag} {F : Hp} (lo : Int) (n : Nat) : ItOk K (Itr lo n) F ((List.range n).map fun (i : Nat) => .int (lo + i)) where
  go := fun i H s hi => by simpa [Itr] using hi
  stop := fun i H s hi => by simpa [Itr] using hi
  yld := fun i d H x H3 s e ⟨e1, e2⟩ B σ F1 env ff r => by
    subst e1; subst e2
    refine ⟨F1, Stp.refl r, ?_⟩
    rw [List.getElem?_map] at e
    obtain ⟨j, q1, rfl⟩ := Option.map_eq_some_iff.mp e
    obtain ⟨q2, q3⟩ := List.getElem?_eq_some_iff.mp q1
    rw [List.getElem_range] at q3
    subst q3
    exact .int _
theorem ite_ok {K : PySem.W.Frag} {F : Hp} {a : Addr} {vs : List V} {ds : List D} (h : Rd F a (.lst vs)) (g : RpAll K F vs ds) : ItOk K (Ite K a) F (enumD ds) := by
  unfold enumD
  have hl : ((List.range ds.length).zipWith (fun (i : Nat) x => PyData.tuple [.int i, x]) ds).length = ds.length := by simp
  refine ⟨fun i H s hi => ?_, fun i H s hi => ?_, fun i d H x H3 s e ⟨T, y, e1, e2, e3, e4⟩ B σ F1 env ff r => ?_⟩
  · rw [hl] at hi
    obtain ⟨v, e1, _⟩ := RpAll.get g (List.getElem?_eq_getElem hi)
    exact ⟨vs, v, .inl (Rd.mono s h), e1⟩
  · rw [hl] at hi
    exact ⟨vs, .inl (Rd.mono s h), by rw [RpAll.length g]; exact hi⟩
  · subst e1; subst e3
    rw [List.getElem?_zipWith] at e
    have hi : i < ds.length := by
      rw [← hl]
      exact (List.getElem?_eq_some_iff.mp (show _ = some d by rw [List.getElem?_zipWith]; exact e)).1
    rw [List.getElem?_eq_getElem hi, List.getElem?_eq_getElem (by simpa using hi), List.getElem_range] at e
    cases e
    obtain ⟨v, q1, q2⟩ := RpAll.get g (List.getElem?_eq_getElem hi)
    have q3 := e4 vs (.inl (Rd.mono s h))
    rw [q1] at q3; cases q3
    have st := r.laid (o := .tup [.int (i : Nat), y]) e2
    exact ⟨_, st, .tup (.inl (.inl upd_same)) (.cons (.int _) (.cons (Rp.mono (ff.trans st.ff) _ _ q2) .nil))⟩
theorem itz_ok {K : PySem.W.Frag} {F : Hp} {a b : Addr} {vs ws : List V} {ds es : List D} (h : Rd F a (.lst vs)) (g : RpAll K F vs ds) (h2 : Rd F b (.lst ws)) (g2 : RpAll K F ws es) : ItOk K (Itz K a b) F (zipD ds es) := by
  unfold zipD
  have hl : (ds.zipWith (fun x y => PyData.tuple [x, y]) es).length = min ds.length es.length := by simp
  refine ⟨fun i H s hi => ?_, fun i H s hi => ?_, fun i d H x H3 s e ⟨T, y, z, e1, e2, e3, e4, e5⟩ B σ F1 env ff r => ?_⟩
  · rw [hl] at hi
    obtain ⟨v, e1, _⟩ := RpAll.get g (List.getElem?_eq_getElem (by omega : i < ds.length))
    obtain ⟨w, e2, _⟩ := RpAll.get g2 (List.getElem?_eq_getElem (by omega : i < es.length))
    exact ⟨vs, ws, v, w, .inl (Rd.mono s h), .inl (Rd.mono s h2), e1, e2⟩
  · rw [hl] at hi
    refine ⟨vs, ws, .inl (Rd.mono s h), .inl (Rd.mono s h2), ?_⟩
    rw [RpAll.length g, RpAll.length g2]; omega
  · subst e1; subst e3
    have hi : i < min ds.length es.length := by
      rw [← hl]
      exact (List.getElem?_eq_some_iff.mp e).1
    rw [List.getElem?_zipWith, List.getElem?_eq_getElem (by omega : i < ds.length), List.getElem?_eq_getElem (by omega : i < es.length)] at e
    cases e
    obtain ⟨v, q1, q2⟩ := RpAll.get g (List.getElem?_eq_getElem (by omega : i < ds.length))
    obtain ⟨w, p1, p2⟩ := RpAll.get g2 (List.getElem?_eq_getElem (by omega : i < es.length))
    have q3 := e4 vs (.inl (Rd.mono s h))
    rw [q1] at q3; cases q3
    have p3 := e5 ws (.inl (Rd.mono s h2))
    rw [p1] at p3; cases p3
    have st := r.laid (o := .tup [y, z]) e2
    exact ⟨_, st, .tup (.inl (.inl upd_same)) (.cons (Rp.mono (ff.trans st.ff) _ _ q2) (.cons (Rp.mono (ff.trans st.ff) _ _ p2) .nil))⟩

theorem PI.imp {tg iter : Expr} {t t' : TI} (h : PI X tg iter t) (w : ∀ σ H R, t' σ H R → t σ H R) : PI X tg iter t' := ⟨fun pins s σ H R I q => h.run pins s σ H R I (w σ H R q)⟩
theorem PI.or {tg iter : Expr} {t u v : TI} (h1 : PI X tg iter t) (h2 : PI X tg iter u) (w : ∀ σ H R, v σ H R → t σ H R ∨ u σ H R) : PI X tg iter v := ⟨fun pins s σ H R I q => (w σ H R q).elim (h1.run pins s σ H R I) (h2.run pins s σ H R I)⟩
theorem bltOk_in {x : Str} (S : Sx X N Γ C k sc) (h : bltOk Γ sc x = true) : Gl X x ∧ X.mg x = none ∧ (x == ("__debug__" : Str)) = false ∧ x ≠ "__name__" := by
  unfold bltOk at h
  rw [Bool.and_eq_true, Bool.and_eq_true, Bool.not_eq_true'] at h
  obtain ⟨⟨h1, h2⟩, h3⟩ := h
  unfold oddName at h3
  rw [Bool.or_eq_false_iff, Bool.or_eq_false_iff] at h3
  refine ⟨?_, S.gok.blts x h2, h3.1.1, fun e => ?_⟩
  · show X.env.scope.names.lookup x = some .globalImplicit
    rw [S.hsc]
    exact gl_of h1
  · rw [e] at h3
    exact absurd h3.2 (by decide)
theorem evL_one {p : Ex} {env env' : En} {ds : List D} (h : evL C [p] env = some (ds, env')) : ∃ d, ev C p env = some (d, env') ∧ ds = [d] := by
  simp only [evL] at h
  obtain ⟨⟨d, e1⟩, h1, h2⟩ := Option.bind_eq_some_iff.mp h
  cases h2
  exact ⟨d, h1, rfl⟩
theorem pi_seqP {tg iter : Expr} {p : Ex} (h : PE X iter (tE X.K B C p)) : PI X tg iter (tI X.K B C .seq [p]) := by
  refine PI.or (pi_list h) (pi_tup h) fun σ H R ⟨F, env, r, ds, env', xs, e, hi, q⟩ => ?_
  obtain ⟨d, e1, rfl⟩ := evL_one e
  have hi : jSeq [d] = some xs := hi
  cases d with
  | list ys =>
    simp only [jSeq] at hi
    split at hi
    · cases hi
      refine .inl ⟨F, env, r, _, env', e1, fun v F' H' s hd => ?_⟩
      obtain ⟨a, vs, rfl, h1, h2⟩ := lst_rd hd
      exact ⟨a, rfl, ⟨vs, .inl (Rd.mono s.rl.fh h1)⟩, q _ F' H' s (itl_ok h1 h2)⟩
    · cases hi
  | tuple ys =>
    simp only [jSeq] at hi
    split at hi
    · cases hi
      refine .inr ⟨F, env, r, _, env', e1, fun v F' H' s hd => ?_⟩
      cases hd with
      | tup h1 h2 => exact ⟨_, rfl, ⟨_, SqT.mono s.rl.fh h1⟩, q _ F' H' s (itt_ok h1 h2)⟩
    · cases hi
  | _ => simp [jSeq] at hi
theorem pi_rng1P (S : Sx X N Γ C k sc) {tg a : Expr} {pa : List Ex} {p pos : Pos} (hb : bltOk Γ sc "range" = true) (hn : notStar a = true) (h : PA X [a] (tL X.K B C pa)) : PI X tg (.Call (.Name "range" p) [a] [] pos) (tI X.K B C .rng1 pa) := by
  obtain ⟨g1, g2, _, _⟩ := bltOk_in S hb
  refine PI.imp (pi_range1 g1 g2 h (star_cons hn)) fun σ H R ⟨F, env, r, ds, env', xs, e, hi, q⟩ => ?_
  refine ⟨F, env, r, ds, env', e, fun vs F' H' s hd => ?_⟩
  have hj : jRng1 ds = some xs := hi
  clear hi
  unfold jRng1 at hj
  split at hj
  · split at hj
    · rename_i n hz
      cases hj
      cases hd with
      | cons h1 t =>
        cases t
        cases h1
        refine ⟨n, rfl, by omega, by omega, q _ F' H' s ?_⟩
        have := itr_ok (K := X.K) (F := F') 0 n.toNat
        simpa [rangeD] using this
    · cases hj
  · cases hj
theorem pi_rng2P (S : Sx X N Γ C k sc) {tg a b : Expr} {pa : List Ex} {p pos : Pos} (hb : bltOk Γ sc "range" = true) (hn : notStar a = true) (hn2 : notStar b = true) (h : PA X [a, b] (tL X.K B C pa)) : PI X tg (.Call (.Name "range" p) [a, b] [] pos) (tI X.K B C .rng2 pa) := by
  obtain ⟨g1, g2, _, _⟩ := bltOk_in S hb
  have e2 : starEach [b] X.env = [(false, eval b X.env)] := star_cons hn2
  refine PI.imp (pi_range2 g1 g2 h (by rw [star_cons hn, e2]) e2) fun σ H R ⟨F, env, r, ds, env', xs, e, hi, q⟩ => ?_
  refine ⟨F, env, r, ds, env', e, fun vs F' H' s hd => ?_⟩
  have hj : jRng2 ds = some xs := hi
  clear hi
  unfold jRng2 at hj
  split at hj
  · split at hj
    · rename_i i j hz
      cases hj
      cases hd with
      | cons h1 t =>
        cases h1
        cases t with
        | cons h2 t =>
          cases h2
          cases t
          exact ⟨i, j, rfl, ⟨by omega, by omega, by omega, by omega⟩, q _ F' H' s (itr_ok i (j - i).toNat)⟩
    · cases hj
  · cases hj
theorem pi_enumP (S : Sx X N Γ C k sc) {tg a : Expr} {pa : List Ex} {p pos : Pos} (ht : isTupE tg = true) (hb : bltOk Γ sc "enumerate" = true) (hn : notStar a = true) (h : PA X [a] (tL X.K B C pa)) : PI X tg (.Call (.Name "enumerate" p) [a] [] pos) (tI X.K B C .enum pa) := by
  obtain ⟨g1, g2, _, _⟩ := bltOk_in S hb
  cases tg with
  | Tuple es kk tp =>
    refine PI.imp (pi_enum g1 g2 h (star_cons hn)) fun σ H R ⟨F, env, r, ds, env', xs, e, hi, q⟩ => ?_
    refine ⟨F, env, r, ds, env', e, fun vs F' H' s hd => ?_⟩
    have hj : jEnum ds = some xs := hi
    clear hi
    unfold jEnum at hj
    split at hj
    · split at hj
      · cases hj
        cases hd with
        | cons h1 t =>
          cases t
          obtain ⟨l, ws, rfl, k1, k2⟩ := lst_rd h1
          exact ⟨l, ws, rfl, .inl (Rd.mono s.rl.fh k1), q _ F' H' s (ite_ok k1 k2)⟩
      · cases hj
    · cases hj
  | _ => cases ht
theorem pi_zipP (S : Sx X N Γ C k sc) {tg a b : Expr} {pa : List Ex} {p pos : Pos} (ht : isTupE tg = true) (hb : bltOk Γ sc "zip" = true) (hn : notStar a = true) (hn2 : notStar b = true) (h : PA X [a, b] (tL X.K B C pa)) : PI X tg (.Call (.Name "zip" p) [a, b] [] pos) (tI X.K B C .zip pa) := by
  obtain ⟨g1, g2, _, _⟩ := bltOk_in S hb
  cases tg with
  | Tuple es kk tp =>
    refine PI.imp (pi_zip g1 g2 h (star_cons hn) (star_none _ _ (by simp [hn2]))) fun σ H R ⟨F, env, r, ds, env', xs, e, hi, q⟩ => ?_
    refine ⟨F, env, r, ds, env', e, fun vs F' H' s hd => ?_⟩
    have hj : jZip ds = some xs := hi
    clear hi
    unfold jZip at hj
    split at hj
    · split at hj
      · cases hj
        cases hd with
        | cons h1 t =>
          cases t with
          | cons h2 t =>
            cases t
            obtain ⟨l, ws, rfl, k1, k2⟩ := lst_rd h1
            obtain ⟨l2, ws2, rfl, m1, m2⟩ := lst_rd h2
            exact ⟨l, l2, ws, ws2, rfl, .inl (Rd.mono s.rl.fh k1), .inl (Rd.mono s.rl.fh m1), q _ F' H' s (itz_ok k1 k2 m1 m2)⟩
      · cases hj
    · cases hj
  | _ => cases ht
/-- the walks, from what their parts do -/
theorem pi_all (S : Sx X N Γ C k sc) {tg iter : Expr} {ps : List Ex} (hns : (cIK Γ sc tg iter).2.all notStar = true) (hA : PA X (cIK Γ sc tg iter).2 (tL X.K B C ps)) (hE : (cIK Γ sc tg iter) = (.seq, [iter]) → ∃ p, ps = [p] ∧ PE X iter (tE X.K B C p)) : PI X tg iter (tI X.K B C (cIK Γ sc tg iter).1 ps) := by
  have seq : (cIK Γ sc tg iter) = (.seq, [iter]) → PI X tg iter (tI X.K B C (cIK Γ sc tg iter).1 ps) := fun e => by
    obtain ⟨p, rfl, h⟩ := hE e
    rw [e]
    exact pi_seqP h
  by_cases w1 : ∃ f p a pos, iter = .Call (.Name f p) [a] [] pos
  · obtain ⟨f, p, a, pos, rfl⟩ := w1
    simp only [cIK] at hns hA seq ⊢
    by_cases c1 : f = ("range" : Str) ∧ bltOk Γ sc f = true
    · rw [if_pos c1] at hns hA ⊢
      obtain ⟨e1, e2⟩ := c1
      subst e1
      exact pi_rng1P S e2 (by simpa using hns) hA
    · rw [if_neg c1] at hns hA seq ⊢
      by_cases c2 : f = ("enumerate" : Str) ∧ bltOk Γ sc f = true ∧ isTupE tg = true
      · rw [if_pos c2] at hns hA ⊢
        obtain ⟨e1, e2, e3⟩ := c2
        subst e1
        exact pi_enumP S e3 e2 (by simpa using hns) hA
      · rw [if_neg c2] at seq ⊢
        exact seq rfl
  by_cases w2 : ∃ f p a b pos, iter = .Call (.Name f p) [a, b] [] pos
  · obtain ⟨f, p, a, b, pos, rfl⟩ := w2
    simp only [cIK] at hns hA seq ⊢
    by_cases c1 : f = ("range" : Str) ∧ bltOk Γ sc f = true
    · rw [if_pos c1] at hns hA ⊢
      obtain ⟨e1, e2⟩ := c1
      subst e1
      have hns' : notStar a = true ∧ notStar b = true := by simpa using hns
      exact pi_rng2P S e2 hns'.1 hns'.2 hA
    · rw [if_neg c1] at hns hA seq ⊢
      by_cases c2 : f = ("zip" : Str) ∧ bltOk Γ sc f = true ∧ isTupE tg = true
      · rw [if_pos c2] at hns hA ⊢
        obtain ⟨e1, e2, e3⟩ := c2
        subst e1
        have hns' : notStar a = true ∧ notStar b = true := by simpa using hns
        exact pi_zipP S e3 e2 hns'.1 hns'.2 hA
      · rw [if_neg c2] at seq ⊢
        exact seq rfl
  refine seq ?_
  unfold cIK
  split
  · exact absurd ⟨_, _, _, _, rfl⟩ w1
  · exact absurd ⟨_, _, _, _, _, rfl⟩ w2
  · rfl
end
end PD

/-! PD12: comprehensions. -/
namespace PD
open PySem PySem.Spec PyProof.Rows L2

section
variable {K : PySem.W.Frag} {B : Bs} {σ : L2.St} {F F' H H' : Hp} {env old : En}
theorem slot_big {i : Nat} (h : env.length ≤ i) : slot env i = .no := by
  unfold slot
  rw [List.getD_eq_getElem?_getD, List.getElem?_eq_none h]; rfl
theorem wipeE_length (env : En) : ∀ l, (wipeE env l).length = env.length
  | [] => rfl
  | i :: r => by rw [wipeE, List.length_set, wipeE_length env r]
theorem restE_length (old env : En) : ∀ l, (restE old env l).length = env.length
  | [] => rfl
  | i :: r => by rw [restE, List.length_set, restE_length old env r]
theorem slot_set {i j : Nat} {s : Slot} : slot (env.set i s) j = if j = i ∧ i < env.length then s else slot env j := by
  by_cases h : j = i
  · subst h
    by_cases hl : j < env.length
    · rw [slot_set_same hl, if_pos ⟨rfl, hl⟩]
    · rw [if_neg (fun z => hl z.2), slot_big (by rw [List.length_set]; omega), slot_big (by omega)]
  · rw [slot_set_ne h, if_neg (fun z => h z.1)]
theorem slot_wipe (env : En) (j : Nat) : ∀ l : List Nat, slot (wipeE env l) j = if j ∈ l then .no else slot env j
  | [] => by rw [wipeE, if_neg (by simp)]
  | i :: r => by
    rw [wipeE, slot_set, slot_wipe env j r, wipeE_length]
    by_cases h : j = i
    · subst h
      rw [if_pos List.mem_cons_self]
      by_cases hl : j < env.length
      · rw [if_pos ⟨rfl, hl⟩]
      · rw [if_neg (fun z => hl z.2), slot_big (by omega)]
        split <;> rfl
    · rw [if_neg (fun z => h z.1)]
      by_cases hr : j ∈ r
      · rw [if_pos hr, if_pos (List.mem_cons_of_mem _ hr)]
      · rw [if_neg hr, if_neg (by rw [List.mem_cons, not_or]; exact ⟨h, hr⟩)]
theorem slot_rest (old env : En) (hl : old.length = env.length) (j : Nat) : ∀ l : List Nat, slot (restE old env l) j = if j ∈ l then slot old j else slot env j
  | [] => by rw [restE, if_neg (by simp)]
  | i :: r => by
    rw [restE, slot_set, slot_rest old env hl j r, restE_length]
    by_cases h : j = i
    · subst h
      rw [if_pos List.mem_cons_self]
      by_cases hj : j < env.length
      · rw [if_pos ⟨rfl, hj⟩]
      · rw [if_neg (fun z => hj z.2), slot_big (env := old) (by omega), slot_big (env := env) (by omega)]
        split <;> rfl
    · rw [if_neg (fun z => h z.1)]
      by_cases hr : j ∈ r
      · rw [if_pos hr, if_pos (List.mem_cons_of_mem _ hr)]
      · rw [if_neg hr, if_neg (by rw [List.mem_cons, not_or]; exact ⟨h, hr⟩)]
theorem sv_wipe (σ : L2.St) (j : Nat) : ∀ l : List Nat, svAt (wipe σ l) j = if j ∈ l then none else svAt σ j
  | [] => by rw [wipe, if_neg (by simp)]
  | i :: r => by
    rw [wipe]
    by_cases h : j = i
    · subst h
      rw [if_pos List.mem_cons_self]
      unfold svAt
      rw [List.getElem?_set]
      simp only [if_true]
      split <;> rfl
    · rw [sv_set_ne h, sv_wipe σ j r]
      by_cases hr : j ∈ r
      · rw [if_pos hr, if_pos (List.mem_cons_of_mem _ hr)]
      · rw [if_neg hr, if_neg (by rw [List.mem_cons, not_or]; exact ⟨h, hr⟩)]
theorem wipe_get (σ : L2.St) (j : Nat) : ∀ l : List Nat, (wipe σ l)[j]? = if j ∈ l then σ[j]?.map (fun _ => none) else σ[j]?
  | [] => by rw [wipe, if_neg (by simp)]
  | i :: r => by
    rw [wipe, List.getElem?_set, wipe_length, wipe_get σ j r]
    by_cases h : i = j
    · subst h
      rw [if_pos rfl, if_pos List.mem_cons_self]
      split
      · rename_i hl
        rw [List.getElem?_eq_getElem hl]; rfl
      · rename_i hl
        rw [List.getElem?_eq_none (by omega)]; rfl
    · rw [if_neg h]
      by_cases hr : j ∈ r
      · rw [if_pos hr, if_pos (List.mem_cons_of_mem _ hr)]
      · rw [if_neg hr, if_neg (by rw [List.mem_cons, not_or]; exact ⟨fun z => h z.symm, hr⟩)]
theorem wipe_eq {σ τ : L2.St} {l : List Nat} (h : ∀ j, j ∉ l → σ[j]? = τ[j]?) (hl : σ.length = τ.length) : wipe σ l = wipe τ l := by
  apply List.ext_getElem?
  intro j
  rw [wipe_get, wipe_get]
  by_cases hj : j ∈ l
  · rw [if_pos hj, if_pos hj]
    by_cases hs : j < σ.length
    · rw [List.getElem?_eq_getElem hs, List.getElem?_eq_getElem (by omega)]; rfl
    · rw [List.getElem?_eq_none (by omega), List.getElem?_eq_none (by omega)]
  · rw [if_neg hj, if_neg hj, h j hj]
theorem Rl.wiped (r : Rl K B F env σ H) (l : List Nat) : Rl K B F (wipeE env l) (wipe σ l) H := by
  have mo : ∀ j, isMut (slot (wipeE env l) j) = true → j ∉ l ∧ isMut (slot env j) = true := fun j m => by
    rw [slot_wipe] at m
    by_cases hj : j ∈ l
    · rw [if_pos hj] at m; cases m
    · rw [if_neg hj] at m; exact ⟨hj, m⟩
  refine ⟨r.fh, r.f0, r.fresh, r.keep, r.gk, fun j => ?_, fun i j a m1 m2 e1 e2 => ?_, by rw [wipeE_length, wipe_length]; exact r.len, r.nz⟩
  · rw [slot_wipe, sv_wipe]
    by_cases hj : j ∈ l
    · rw [if_pos hj, if_pos hj]; trivial
    · rw [if_neg hj, if_neg hj]; exact r.sl j
  · rw [sv_wipe, if_neg (mo i m1).1] at e1
    rw [sv_wipe, if_neg (mo j m2).1] at e2
    exact r.sep i j a (mo i m1).2 (mo j m2).2 e1 e2
/-- an object of ours that no slot holds is changed -/
theorem Rl.upd1 (r : Rl K B F env σ H) {p : Addr} {o : HO} (nF : F p = none) (n0 : B.H0 p = none) (ng : B.g ≠ some p) (nm : ¬ MutAt env σ p) : Rl K B F env σ (upd H p o) := by
  refine ⟨fun b u e => ?_, r.f0, r.fresh, fun b u e z => ?_, fun a e => ?_, fun i => (r.sl i).mono (Same.refl _) fun a m e => ⟨?_, rfl⟩, r.sep, r.len, r.nz⟩
  · rw [upd_ne (ne_of_none e nF)]; exact r.fh b u e
  · rw [upd_ne (ne_of_none e n0)]; exact r.keep b u e z
  · obtain ⟨o', q⟩ := r.gk a e
    exact ⟨o', by rw [upd_ne (fun z => ng (by rw [← z]; exact e))]; exact q⟩
  · rw [upd_ne (fun z => nm ⟨i, m, by rw [← z]; exact e⟩)]
theorem no0 (r : Rl K B F env σ H) {p : Addr} (n : H p = none) : B.H0 p = none ∧ B.g ≠ some p := by
  have ng : B.g ≠ some p := fun z => by
    obtain ⟨o, q⟩ := r.gk p z
    rw [n] at q; cases q
  refine ⟨?_, ng⟩
  cases q : B.H0 p with
  | none => rfl
  | some o =>
    have := r.keep p o q ng
    rw [n] at this; cases this
theorem Rl.mutTracked (r : Rl K B F env σ H) {p : Addr} (n : H p = none) : ¬ MutAt env σ p := fun ⟨i, m, e⟩ => by
  obtain ⟨vs, q, _⟩ := (r.sl i).tracked m e
  rw [n] at q; cases q
end

section
variable (K : PySem.W.Frag) (B : Bs) (C : Nat → List D → Option (D × List D))
def tTs (qs : List Ex) : TT := fun σ H Q => ∃ F env, Rl K B F env σ H ∧ ∃ b env', evT C qs env = some (b, env') ∧ ∀ F' H', Stp K B σ F env H F' env' H' → Q b H'
end
/-- the turn of a comprehension -/
def turnC (C : Nat → List D → Option (D × List D)) (own : List Nat) (tg : Tg) (qs : List Ex) (pe : Ex) (x : D) (e : En) : Option (Option D × En) :=
  (asg tg x (wipeE e own)).bind fun e1 => (evT C qs e1).bind fun t => if t.1 then (ev C pe t.2).map fun r => (some r.1, r.2) else some (none, t.2)
theorem compL_len {f : D → En → Option (Option D × En)} : ∀ {xs : List D} {env : En} {p : List D × En}, compL f xs env = some p → p.1.length ≤ xs.length
  | [], _, _, h => by rw [compL] at h; cases h; exact Nat.le_refl _
  | x :: r, env, p, h => by
    rw [compL] at h
    obtain ⟨a, _, h⟩ := Option.bind_eq_some_iff.mp h
    obtain ⟨q, h2, rfl⟩ := Option.map_eq_some_iff.mp h
    have := compL_len h2
    cases a.1 <;> simp [consO] <;> omega
theorem items_sz {ik : IK} {ds xs : List D} (h : items ik ds = some xs) : xs.length ≤ 1000000 := by
  cases ik
  · have h : jSeq ds = some xs := h
    unfold jSeq at h
    split at h
    · split at h
      · rename_i hz; cases h; exact of_decide_eq_true hz
      · cases h
    · split at h
      · rename_i hz; cases h; exact of_decide_eq_true hz
      · cases h
    · cases h
  · have h : jRng1 ds = some xs := h
    unfold jRng1 at h
    split at h
    · split at h
      · rename_i hz; cases h; unfold rangeD; simp; omega
      · cases h
    · cases h
  · have h : jRng2 ds = some xs := h
    unfold jRng2 at h
    split at h
    · split at h
      · rename_i hz; cases h; simp; omega
      · cases h
    · cases h
  · have h : jEnum ds = some xs := h
    unfold jEnum at h
    split at h
    · split at h
      · rename_i hz; cases h; unfold enumD; simp; exact of_decide_eq_true hz
      · cases h
    · cases h
  · have h : jZip ds = some xs := h
    unfold jZip at h
    split at h
    · split at h
      · rename_i hz
        cases h
        rw [Bool.and_eq_true] at hz
        unfold zipD; simp
        have := of_decide_eq_true hz.1
        omega
      · cases h
    · cases h
  · have h : jZips ds = some xs := h
    unfold jZips at h
    split at h
    · split at h
      · rename_i hz
        cases h
        rw [Bool.and_eq_true] at hz
        unfold zipD; simp
        have := of_decide_eq_true hz.1
        omega
      · cases h
    · cases h

mutual
theorem asg_len : ∀ {t : Tg} {d : D} {env env1 : En}, asg t d env = some env1 → env1.length = env.length
  | .nm i, d, env, env1, h => by
    rw [asg] at h
    split at h
    · cases h
    · split at h
      · cases h; rw [List.length_set]
      · cases h
  | .tp ts, .tuple ds, env, env1, h => by rw [asg] at h; exact asgs_len' h
  | .tp ts, .none, _, _, h => by simp [asg] at h
  | .tp ts, .bool _, _, _, h => by simp [asg] at h
  | .tp ts, .int _, _, _, h => by simp [asg] at h
  | .tp ts, .str _, _, _, h => by simp [asg] at h
  | .tp ts, .list _, _, _, h => by simp [asg] at h
  | .tp ts, .dict _, _, _, h => by simp [asg] at h
theorem asgs_len' : ∀ {ts : List Tg} {ds : List D} {env env1 : En}, asgs ts ds env = some env1 → env1.length = env.length
  | [], [], _, _, h => by rw [asgs] at h; cases h; rfl
  | [], _ :: _, _, _, h => by simp [asgs] at h
  | _ :: _, [], _, _, h => by simp [asgs] at h
  | t :: ts, d :: ds, env, env1, h => by
    rw [asgs] at h
    obtain ⟨e1, h1, h2⟩ := Option.bind_eq_some_iff.mp h
    rw [asgs_len' h2, asg_len h1]
end
mutual
theorem asg_mut : ∀ {t : Tg} {d : D} {env env1 : En}, asg t d env = some env1 → ∀ j, isMut (slot env1 j) = true → isMut (slot env j) = true
  | .nm i, d, env, env1, h => by
    rw [asg] at h
    split at h
    · cases h
    · split at h
      · cases h
        intro j m
        rw [slot_set] at m
        split at m
        · cases m
        · exact m
      · cases h
  | .tp ts, .tuple ds, env, env1, h => by rw [asg] at h; exact asgs_mut h
  | .tp ts, .none, _, _, h => by simp [asg] at h
  | .tp ts, .bool _, _, _, h => by simp [asg] at h
  | .tp ts, .int _, _, _, h => by simp [asg] at h
  | .tp ts, .str _, _, _, h => by simp [asg] at h
  | .tp ts, .list _, _, _, h => by simp [asg] at h
  | .tp ts, .dict _, _, _, h => by simp [asg] at h
theorem asgs_mut : ∀ {ts : List Tg} {ds : List D} {env env1 : En}, asgs ts ds env = some env1 → ∀ j, isMut (slot env1 j) = true → isMut (slot env j) = true
  | [], [], _, _, h => by rw [asgs] at h; cases h; exact fun _ m => m
  | [], _ :: _, _, _, h => by simp [asgs] at h
  | _ :: _, [], _, _, h => by simp [asgs] at h
  | t :: ts, d :: ds, env, env1, h => by
    rw [asgs] at h
    obtain ⟨e1, h1, h2⟩ := Option.bind_eq_some_iff.mp h
    exact fun j m => asg_mut h1 j (asgs_mut h2 j m)
end
section
variable {K : PySem.W.Frag} {B : Bs} {C : Nat → List D → Option (D × List D)}
theorem lc_imp {own : List Nat} {tg : Tg} {ik : IK} {its qs : List Ex} {pe : Ex} (hin : tgIn own tg = true) {σ : L2.St} {H : Hp} {Q : VK} (h : tE K B C (.comp own tg ik its qs pe) σ H Q) :
    tLc (tI K B C ik its) (tG K B tg) (tTs K B C qs) (tE K B C pe) own σ H Q := by
  obtain ⟨F, env, r, d, env', e, q⟩ := h
  rw [ev] at e
  obtain ⟨⟨ds, e1⟩, h1, e⟩ := Option.bind_eq_some_iff.mp e
  obtain ⟨xs, h2, e⟩ := Option.bind_eq_some_iff.mp e
  have hz := items_sz h2
  simp only at e h2
  split at e
  · rename_i hno
    obtain ⟨⟨res, e2⟩, h3, e⟩ := Option.map_eq_some_iff.mp e
    cases e
    have h3 : compL (turnC C own tg qs pe) xs e1 = some (res, e2) := h3
    refine ⟨F, env, r, ds, e1, xs, h1, h2, fun J F1 H1 s1 ok D nD => ?_⟩
    obtain ⟨n0, ng⟩ := no0 s1.rl nD
    have nF1 : F1 D = none := s1.rl.fh.free nD
    have lenE : e1.length = σ.length := s1.rl.len
    -- the invariant
    refine ⟨fun i m Hi => m = xs.length - i ∧ i ≤ xs.length ∧ ∃ Fi ei acc accD rest, Same F1 Fi ∧ compL (turnC C own tg qs pe) (xs.drop i) ei = some (rest, e2) ∧ accD ++ rest = res ∧ Hi D = some (.lst acc) ∧ RpAll K Fi acc accD ∧ Fi D = none ∧ acc.length ≤ i ∧
      Rl K B Fi (wipeE ei own) (wipe σ own) Hi ∧ ei.length = e1.length ∧ (∀ j, j ∉ own → isMut (slot ei j) = true → isMut (slot e1 j) = true) ∧
      (∀ b o, H1 b = some o → ¬ MutAt e1 σ b → Hi b = some o) ∧ (∀ b o, H1 b = some o → F1 b = none → ¬ MutAt e1 σ b → Fi b = none), ⟨xs.length, rfl, Nat.zero_le _, F1, e1, [], [], res, Same.refl _, h3, rfl, upd_same, .nil, nF1, Nat.le_refl _, (s1.rl.laidU nD).rl.wiped own, rfl, fun _ _ h => h, fun b o e _ => by rw [upd_ne (ne_of_none e nD)]; exact e, fun _ _ _ h _ => h⟩, ?_⟩
    rintro i m Hi ⟨rfl, hi, Fi, ei, acc, accD, rest, ff, hc, hres, hD, hacc, nFi, hlen, rl, el, emo, kp, kz⟩
    have sameI : Same F1 Hi := ff.trans rl.fh
    have nmD : ∀ (ew : En) (τ : L2.St), (∀ j, isMut (slot ew j) = true → j ∉ own ∧ isMut (slot e1 j) = true) → (∀ j, j ∉ own → svAt τ j = svAt σ j) → ¬ MutAt ew τ D := fun ew τ k1 k2 ⟨j, mj, ej⟩ => by
      obtain ⟨hj, mj'⟩ := k1 j mj
      rw [k2 j hj] at ej
      exact s1.rl.mutTracked nD ⟨j, mj', ej⟩
    have mutW : ∀ j, isMut (slot (wipeE ei own) j) = true → j ∉ own ∧ isMut (slot e1 j) = true := fun j mj => by
      rw [slot_wipe] at mj
      by_cases hj : j ∈ own
      · rw [if_pos hj] at mj; cases mj
      · rw [if_neg hj] at mj; exact ⟨hj, emo j hj mj⟩
    by_cases hlt : i < xs.length
    · refine .inr ⟨ok.go i Hi sameI hlt, ?_⟩
      have hd : xs.drop i = xs[i] :: xs.drop (i + 1) := List.drop_eq_getElem_cons hlt
      rw [hd, compL] at hc
      obtain ⟨⟨od, e3⟩, ht, hc⟩ := Option.bind_eq_some_iff.mp hc
      obtain ⟨⟨rest', e4⟩, hcR, hr⟩ := Option.map_eq_some_iff.mp hc
      clear hc
      have hr1 : consO od rest' = rest := congrArg Prod.fst hr
      have hr2 : e4 = e2 := congrArg Prod.snd hr
      subst hr2
      unfold turnC at ht
      obtain ⟨ea, ha, ht⟩ := Option.bind_eq_some_iff.mp ht
      obtain ⟨⟨tb, et⟩, hq, ht⟩ := Option.bind_eq_some_iff.mp ht
      -- what the turn reaches
      refine ⟨fun H' => ∃ Fn en acc' accD', Same F1 Fn ∧ compL (turnC C own tg qs pe) (xs.drop (i + 1)) en = some (rest', e4) ∧ accD' ++ rest' = res ∧ H' D = some (.lst acc') ∧ RpAll K Fn acc' accD' ∧ Fn D = none ∧ acc'.length ≤ i + 1 ∧
        Rl K B Fn (wipeE en own) (wipe σ own) H' ∧ en.length = e1.length ∧ (∀ j, j ∉ own → isMut (slot en j) = true → isMut (slot e1 j) = true) ∧
        (∀ b o, H1 b = some o → ¬ MutAt e1 σ b → H' b = some o) ∧ (∀ b o, H1 b = some o → F1 b = none → ¬ MutAt e1 σ b → Fn b = none), fun H' ⟨Fn, en, acc', accD', k⟩ => ⟨xs.length - (i + 1), by omega, rfl, hlt, Fn, en, acc', accD', rest', k⟩, fun x H' hy => ?_⟩
      obtain ⟨F2, s2, hx⟩ := ok.yld i xs[i] Hi x H' sameI (List.getElem?_eq_getElem hlt) hy B (wipe σ own) Fi (wipeE ei own) ff rl
      have hD2 : H' D = some (.lst acc) := s2.fr D _ hD (nmD _ _ mutW fun j hj => by rw [sv_wipe, if_neg hj])
      have nF2 : F2 D = none := s2.fz D _ hD nFi (nmD _ _ mutW fun j hj => by rw [sv_wipe, if_neg hj])
      refine ⟨F2, wipeE ei own, xs[i], ea, s2.rl, hx, ha, fun σ1 r1 same => ?_⟩
      have same' : ∀ j, j ∉ own → σ1[j]? = (wipe σ own)[j]? := fun j hj => same own hin j hj
      have hl1 : σ1.length = σ.length := by rw [← r1.len]; have := asg_len ha; rw [wipeE_length] at this; omega
      have hw1 : wipe σ1 own = wipe (wipe σ own) own := wipe_eq same' (by rw [wipe_length]; exact hl1)
      have hww : wipe (wipe σ own) own = wipe σ own := wipe_eq (fun j hj => by rw [wipe_get, if_neg hj]) (by rw [wipe_length])
      have sv1 : ∀ j, j ∉ own → svAt σ1 j = svAt σ j := fun j hj => by
        unfold svAt
        rw [same' j hj, wipe_get, if_neg hj]
      have mutA : ∀ j, isMut (slot ea j) = true → j ∉ own ∧ isMut (slot e1 j) = true := fun j mj => mutW j (asg_mut ha j mj)
      refine ⟨hw1.trans hww, F2, ea, r1, tb, et, hq, fun F3 H3 s3 => ?_⟩
      have mutT : ∀ j, isMut (slot et j) = true → j ∉ own ∧ isMut (slot e1 j) = true := fun j mj => mutA j (s3.mo j mj)
      have hD3 : H3 D = some (.lst acc) := s3.fr D _ hD2 (nmD _ _ mutA sv1)
      have nF3 : F3 D = none := s3.fz D _ hD2 nF2 (nmD _ _ mutA sv1)
      have nmb : ∀ (ew : En) (τ : L2.St) (b : Addr), (∀ j, isMut (slot ew j) = true → j ∉ own ∧ isMut (slot e1 j) = true) → (∀ j, j ∉ own → svAt τ j = svAt σ j) → ¬ MutAt e1 σ b → ¬ MutAt ew τ b := fun ew τ b k1 k2 n ⟨j, mj, ej⟩ => by
        obtain ⟨hj, mj'⟩ := k1 j mj
        rw [k2 j hj] at ej
        exact n ⟨j, mj', ej⟩
      have svw : ∀ j, j ∉ own → svAt (wipe σ own) j = svAt σ j := fun j hj => by rw [sv_wipe, if_neg hj]
      have kp3 : ∀ b o, H1 b = some o → ¬ MutAt e1 σ b → H3 b = some o := fun b o e n => s3.fr b o (s2.fr b o (kp b o e n) (nmb _ _ b mutW svw n)) (nmb _ _ b mutA sv1 n)
      have kz3 : ∀ b o, H1 b = some o → F1 b = none → ¬ MutAt e1 σ b → F3 b = none := fun b o e f n => s3.fz b o (s2.fr b o (kp b o e n) (nmb _ _ b mutW svw n)) (s2.fz b o (kp b o e n) (kz b o e f n) (nmb _ _ b mutW svw n)) (nmb _ _ b mutA sv1 n)
      have lenT : et.length = e1.length := by rw [s3.rl.len, hl1, lenE]
      cases tb with
      | false =>
        simp only [Bool.false_eq_true, if_false] at ht
        cases ht
        refine L2.iteF ⟨F3, _, acc, accD, ff.trans (s2.ff.trans s3.ff), hcR, by rw [← hres, ← hr1]; rfl, hD3, RpAll.mono (s2.ff.trans s3.ff) _ _ hacc, nF3, by omega, ?_, lenT, fun j hj mj => (mutT j mj).2, kp3, kz3⟩
        have := s3.rl.wiped own
        rw [hw1, hww] at this
        exact this
      | true =>
        simp only [if_true] at ht
        obtain ⟨⟨dy, ey⟩, hy2, ht⟩ := Option.map_eq_some_iff.mp ht
        obtain ⟨ho, he⟩ : od = some dy ∧ e3 = ey := by cases ht; exact ⟨rfl, rfl⟩
        subst ho he
        refine L2.iteT ⟨F3, et, s3.rl, dy, e3, hy2, fun y F4 H4 s4 hyd => ?_⟩
        have hD4 : H4 D = some (.lst acc) := s4.fr D _ hD3 (nmD _ _ mutT sv1)
        have nF4 : F4 D = none := s4.fz D _ hD3 nF3 (nmD _ _ mutT sv1)
        have mutY : ∀ j, isMut (slot e3 j) = true → j ∉ own ∧ isMut (slot e1 j) = true := fun j mj => mutT j (s4.mo j mj)
        have kp4 : ∀ b o, H1 b = some o → ¬ MutAt e1 σ b → H4 b = some o := fun b o e n => s4.fr b o (kp3 b o e n) (nmb _ _ b mutT sv1 n)
        have kz4 : ∀ b o, H1 b = some o → F1 b = none → ¬ MutAt e1 σ b → F4 b = none := fun b o e f n => s4.fz b o (kp3 b o e n) (kz3 b o e f n) (nmb _ _ b mutT sv1 n)
        have r4 := s4.rl.wiped own
        rw [hw1, hww] at r4
        have mutY' : ∀ j, isMut (slot (wipeE e3 own) j) = true → j ∉ own ∧ isMut (slot e1 j) = true := fun j mj => by
          rw [slot_wipe] at mj
          by_cases hj : j ∈ own
          · rw [if_pos hj] at mj; cases mj
          · rw [if_neg hj] at mj; exact mutY j mj
        refine ⟨acc, hD4, Nat.lt_of_le_of_lt hlen (Nat.lt_of_lt_of_le hlt (Nat.le_trans hz (by decide))), F4, e3, acc ++ [y], accD ++ [dy], ff.trans (s2.ff.trans (s3.ff.trans s4.ff)), hcR, by rw [List.append_assoc, ← hres, ← hr1]; rfl, upd_same,
          RpAll.append (RpAll.mono (s2.ff.trans (s3.ff.trans s4.ff)) _ _ hacc) (.cons hyd .nil), nF4, by rw [List.length_append]; simp; omega, r4.upd1 nF4 n0 ng (nmD _ _ mutY' svw), by rw [s4.rl.len, hl1, lenE], fun j hj mj => (mutY j mj).2, fun b o e n => ?_, kz4⟩
        rw [upd_ne (ne_of_none e nD)]
        exact kp4 b o e n
    · -- the end
      refine .inl ⟨ok.stop i Hi sameI (by omega), ?_⟩
      have hie : i = xs.length := by omega
      rw [hie, List.drop_length, compL] at hc
      cases hc
      rw [List.append_nil] at hres
      subst hres
      have svw : ∀ j, j ∉ own → svAt (wipe σ own) j = svAt σ j := fun j hj => by rw [sv_wipe, if_neg hj]
      have ffD : Same Fi (upd Fi D (.lst acc)) := fun b u e => by rw [upd_ne (ne_of_none e nFi)]; exact e
      have nown : ∀ j, j ∈ own → isMut (slot e1 j) = false := fun j hj => by
        have := List.all_eq_true.mp hno j hj
        simpa using this
      have mutE : ∀ j, isMut (slot (restE e1 e2 own) j) = true → j ∉ own ∧ isMut (slot e1 j) = true ∧ isMut (slot e2 j) = true := fun j mj => by
        rw [slot_rest _ _ el.symm] at mj
        by_cases hj : j ∈ own
        · rw [if_pos hj, nown j hj] at mj; cases mj
        · rw [if_neg hj] at mj; exact ⟨hj, emo j hj mj, mj⟩
      refine q (.ref D) (upd Fi D (.lst acc)) Hi ⟨⟨fun b u e => ?_, s1.rl.f0.trans (ff.trans ffD), fun b u e z => ?_, rl.keep, rl.gk, fun j => ?_, fun j l b m1 m2 q1 q2 => ?_, by rw [restE_length, el]; exact lenE, nzu rl.nz (fun _ _ z => by cases z)⟩, s1.ff.trans (ff.trans ffD), fun b o e n => ?_, fun j mj => s1.mo j (mutE j mj).2.1, fun b o e f n => ?_⟩ (.lst (.inl upd_same) (RpAll.mono ffD _ _ hacc))
      · by_cases hb : b = D
        · subst hb; rw [upd_same] at e; rw [← e]; exact hD
        · rw [upd_ne hb] at e; exact rl.fh b u e
      · have : b ≠ D := ne_of_none e n0
        rw [upd_ne this]; exact rl.fresh b u e z
      · rw [slot_rest _ _ el.symm]
        by_cases hj : j ∈ own
        · rw [if_pos hj]
          exact (s1.rl.sl j).mono (ff.trans ffD) fun a m _ => by rw [nown j hj] at m; cases m
        · rw [if_neg hj]
          have h0 := rl.sl j
          rw [slot_wipe, if_neg hj, svw j hj] at h0
          refine h0.mono ffD fun a m e => ⟨rfl, ?_⟩
          refine upd_ne fun z => s1.rl.mutTracked nD ⟨j, emo j hj m, ?_⟩
          rw [e, z]
      · obtain ⟨a1, a2, a3⟩ := mutE j m1
        obtain ⟨b1, b2, b3⟩ := mutE l m2
        exact s1.rl.sep j l b a2 b2 q1 q2
      · exact kp b o (s1.fr b o e n) fun z => n (z.mono s1.mo)
      · have e1' := s1.fr b o e n
        have : b ≠ D := ne_of_none e1' nD
        rw [upd_ne this]
        exact kz b o e1' (s1.fz b o e f n) fun z => n (z.mono s1.mo)
  · cases e
end
end PD

/-! PD13: every expression of the small language does what it says. -/
namespace PD
open PySem PySem.Spec PyProof.Rows L2

section
variable {K : PySem.W.Frag} {B : Bs} {C : Nat → List D → Option (D × List D)} {σ : L2.St} {H : Hp}
/-! ### readings of parts -/
theorem evB_cons {p : Ex} {ps : List Ex} {env env' : En} {os : List Op} (h : evB C (p :: ps) env = some (os, env')) : ∃ o e1 r, opd p (ev C p) env = some (o, e1) ∧ evB C ps e1 = some (r, env') ∧ os = o :: r := by
  rw [evB] at h
  obtain ⟨⟨o, e1⟩, h1, h⟩ := Option.bind_eq_some_iff.mp h
  obtain ⟨⟨r, e2⟩, h2, h3⟩ := Option.map_eq_some_iff.mp h
  cases h3
  exact ⟨o, e1, r, h1, h2, rfl⟩
theorem evL_cons {p : Ex} {ps : List Ex} {env env' : En} {ds : List D} (h : evL C (p :: ps) env = some (ds, env')) : ∃ d e1 r, ev C p env = some (d, e1) ∧ evL C ps e1 = some (r, env') ∧ ds = d :: r := by
  rw [evL] at h
  obtain ⟨⟨o, e1⟩, h1, h⟩ := Option.bind_eq_some_iff.mp h
  obtain ⟨⟨r, e2⟩, h2, h3⟩ := Option.map_eq_some_iff.mp h
  cases h3
  exact ⟨o, e1, r, h1, h2, rfl⟩
theorem tBs_nil {Q : List V → Hp → Prop} (h : tBs K B C [] σ H Q) : tNil σ H Q := by
  obtain ⟨F, env, r, os, env', e, q⟩ := h
  rw [evB] at e
  cases e
  exact q [] F H (Stp.refl r) .nil
theorem tL_nil {Q : List V → Hp → Prop} (h : tL K B C [] σ H Q) : tNil σ H Q := by
  obtain ⟨F, env, r, os, env', e, q⟩ := h
  rw [evL] at e
  cases e
  exact q [] F H (Stp.refl r) .nil
theorem tBs_cons {p : Ex} {ps : List Ex} {Q : List V → Hp → Prop} (h : tBs K B C (p :: ps) σ H Q) : tCons (tO K B C p) (tBs K B C ps) σ H Q := by
  obtain ⟨F, env, r, os, env', e, q⟩ := h
  obtain ⟨o, e1, os', h1, h2, rfl⟩ := evB_cons e
  refine ⟨F, env, r, o, e1, h1, fun v F1 H1 s1 k1 => ⟨F1, e1, s1.rl, os', env', h2, fun vs F2 H2 s2 k2 => q _ F2 H2 (s1.trans s2) (.cons (k1.mono s2.ff) k2)⟩⟩
theorem tL_cons {p : Ex} {ps : List Ex} {Q : List V → Hp → Prop} (h : tL K B C (p :: ps) σ H Q) : tCons (tE K B C p) (tL K B C ps) σ H Q := by
  obtain ⟨F, env, r, os, env', e, q⟩ := h
  obtain ⟨o, e1, os', h1, h2, rfl⟩ := evL_cons e
  refine ⟨F, env, r, o, e1, h1, fun v F1 H1 s1 k1 => ⟨F1, e1, s1.rl, os', env', h2, fun vs F2 H2 s2 k2 => q _ F2 H2 (s1.trans s2) (.cons (Rp.mono s2.ff _ _ k1) k2)⟩⟩
theorem rsL_len {env : En} : ∀ {os : List Op} {ds : List D}, rsL env os = some ds → os.length = ds.length
  | [], _, h => by rw [rsL] at h; cases h; rfl
  | o :: r, _, h => by
    rw [rsL] at h
    obtain ⟨d, _, h⟩ := Option.bind_eq_some_iff.mp h
    obtain ⟨ds', h2, rfl⟩ := Option.map_eq_some_iff.mp h
    rw [List.length_cons, List.length_cons, rsL_len h2]
theorem prm_all {p : Pr} {ps : List Ex} {Q : VK} (h : tE K B C (.prm p ps) σ H Q) : tBs K B C ps σ H fun vs H1 => vs.length = ps.length ∧ rP K B p vs H1 Q := by
  obtain ⟨F, env, r, d, env', e, q⟩ := h
  rw [ev] at e
  obtain ⟨⟨os, e1⟩, h1, e⟩ := Option.bind_eq_some_iff.mp e
  obtain ⟨ds, h2, e⟩ := Option.bind_eq_some_iff.mp e
  obtain ⟨d', h3, h4⟩ := Option.map_eq_some_iff.mp e
  cases h4
  refine ⟨F, env, r, os, e1, h1, fun vs F1 H1 s1 k1 => ⟨?_, σ, F1, e1, ds, d, s1.rl, s1.rl.boL k1 h2, h3, fun v F' H' s' hd => q v F' H' (s1.trans s') hd⟩⟩
  have l1 : ∀ {ps : List Ex} {env env' : En} {os : List Op}, evB C ps env = some (os, env') → os.length = ps.length := by
    intro ps
    induction ps with
    | nil => intro _ _ _ h; rw [evB] at h; cases h; rfl
    | cons p ps ih =>
      intro _ _ _ h
      obtain ⟨o, e1, r, _, h2, rfl⟩ := evB_cons h
      rw [List.length_cons, List.length_cons, ih h2]
  rw [← l1 h1]
  exact Paired.length k1
theorem prm_two {p : Pr} {pa pb : Ex} {Q : VK} (h : tE K B C (.prm p [pa, pb]) σ H Q) : tOp (rP2 K B p) (tO K B C pa) (tO K B C pb) σ H Q := by
  have h1 := tBs_cons (prm_all h)
  obtain ⟨F, env, r, o, e1, h1, q1⟩ := h1
  refine ⟨F, env, r, o, e1, h1, fun v F1 H1 s1 k1 => ?_⟩
  obtain ⟨F, env, r, o, e1, h1, q2⟩ := tBs_cons (q1 v F1 H1 s1 k1)
  refine ⟨F, env, r, o, e1, h1, fun v F1 H1 s1 k1 => ?_⟩
  exact (tBs_nil (q2 v F1 H1 s1 k1)).2
theorem prm_one {p : Pr} {pa : Ex} {Q : VK} (h : tE K B C (.prm p [pa]) σ H Q) : tUn (rP1 K B p) (tO K B C pa) σ H Q := by
  obtain ⟨F, env, r, o, e1, h1, q1⟩ := tBs_cons (prm_all h)
  refine ⟨F, env, r, o, e1, h1, fun v F1 H1 s1 k1 => ?_⟩
  exact (tBs_nil (q1 v F1 H1 s1 k1)).2
theorem isTrueD_in {d : D} {t : Bool} (h : isTrueD d = some t) : d = .bool t := by
  cases d <;> simp [isTrueD] at h
  rw [h]
/-- a test's reading is its value's -/
theorem tT_val {p : Ex} {Q : Bool → Hp → Prop} (h : tT K B C p σ H Q) : tE K B C p σ H fun x H1 => ∃ c, x = .bl c ∧ Q c H1 := by
  obtain ⟨F, env, r, b, env', e, q⟩ := h
  refine ⟨F, env, r, _, env', e, fun v F1 H1 s1 k1 => ⟨b, ?_, q F1 H1 s1⟩⟩
  cases k1; rfl
theorem chain_imp {o o' : Pr} {a b c : Ex} {Q : VK} (h : tE K B C (.chain o o' a b c) σ H Q) : tChain (rP2 K B o) (rP2 K B o') (tO K B C a) (tO K B C b) (tO K B C c) σ H Q := by
  obtain ⟨F, env, r, d, env', e, q⟩ := h
  rw [ev] at e
  obtain ⟨⟨oa, e1⟩, h1, e⟩ := Option.bind_eq_some_iff.mp e
  obtain ⟨⟨ob, e2⟩, h2, e⟩ := Option.bind_eq_some_iff.mp e
  obtain ⟨ds, h3, e⟩ := Option.bind_eq_some_iff.mp e
  obtain ⟨rd, h4, e⟩ := Option.bind_eq_some_iff.mp e
  obtain ⟨t, h5, ee⟩ := Option.bind_eq_some_iff.mp e
  clear e
  have h5' := isTrueD_in h5
  clear h5
  subst h5'
  refine ⟨F, env, r, oa, e1, h1, fun x F1 H1 s1 k1 => ⟨F1, e1, s1.rl, ob, e2, h2, fun y F2 H2 s2 k2 => ?_⟩⟩
  refine ⟨σ, F2, e2, ds, .bool t, s2.rl, s2.rl.boL (.cons (k1.mono s2.ff) (.cons k2 .nil)) h3, h4, fun z F3 H3 s3 hz => ?_⟩
  cases hz
  refine ⟨t, rfl, ?_⟩
  cases t with
  | false =>
    rw [if_neg (by decide)] at ee
    cases ee
    exact L2.iteF (q _ F3 H3 (s1.trans (s2.trans s3)) (.bl _))
  | true =>
    rw [if_pos rfl] at ee
    obtain ⟨⟨oc, e4⟩, h6, ef⟩ := Option.bind_eq_some_iff.mp ee
    obtain ⟨ds', h7, eg⟩ := Option.bind_eq_some_iff.mp ef
    obtain ⟨d', h8, h9⟩ := Option.map_eq_some_iff.mp eg
    cases h9
    refine L2.iteT ⟨F3, e2, s3.rl, oc, e4, h6, fun w F4 H4 s4 k4 => ?_⟩
    exact ⟨σ, F4, e4, ds', d, s4.rl, s4.rl.boL (.cons (k2.mono (s3.ff.trans s4.ff)) (.cons k4 .nil)) h7, h8, fun v F5 H5 s5 hd => q v F5 H5 (s1.trans (s2.trans (s3.trans (s4.trans s5)))) hd⟩
theorem and_imp {a b : Ex} {Q : VK} (h : tE K B C (.and a b) σ H Q) : tAndV (tE K B C a) (tE K B C b) σ H Q := by
  obtain ⟨F, env, r, d, env', e, q⟩ := h
  rw [ev] at e
  obtain ⟨⟨da, e1⟩, h1, e⟩ := Option.bind_eq_some_iff.mp e
  obtain ⟨t, h2, ee⟩ := Option.bind_eq_some_iff.mp e
  clear e
  have h2' := isTrueD_in h2
  clear h2
  simp only at h2' ee
  subst h2'
  refine ⟨F, env, r, _, e1, h1, fun x F1 H1 s1 k1 => ?_⟩
  cases k1
  refine ⟨t, rfl, ?_⟩
  cases t with
  | false =>
    rw [if_neg (by decide)] at ee
    cases ee
    exact L2.iteF (q _ F1 H1 s1 (.bl _))
  | true =>
    rw [if_pos rfl] at ee
    exact L2.iteT ⟨F1, e1, s1.rl, d, env', ee, fun v F2 H2 s2 k2 => q v F2 H2 (s1.trans s2) k2⟩
theorem or_imp {a b : Ex} {Q : VK} (h : tE K B C (.or a b) σ H Q) : tOrV (tE K B C a) (tE K B C b) σ H Q := by
  obtain ⟨F, env, r, d, env', e, q⟩ := h
  rw [ev] at e
  obtain ⟨⟨da, e1⟩, h1, e⟩ := Option.bind_eq_some_iff.mp e
  obtain ⟨t, h2, ee⟩ := Option.bind_eq_some_iff.mp e
  clear e
  have h2' := isTrueD_in h2
  clear h2
  simp only at h2' ee
  subst h2'
  refine ⟨F, env, r, _, e1, h1, fun x F1 H1 s1 k1 => ?_⟩
  cases k1
  refine ⟨t, rfl, ?_⟩
  cases t with
  | false =>
    rw [if_neg (by decide)] at ee
    exact L2.iteF ⟨F1, e1, s1.rl, d, env', ee, fun v F2 H2 s2 k2 => q v F2 H2 (s1.trans s2) k2⟩
  | true =>
    rw [if_pos rfl] at ee
    cases ee
    exact L2.iteT (q _ F1 H1 s1 (.bl _))
theorem and_impT {a b : Ex} {Q : Bool → Hp → Prop} (h : tT K B C (.and a b) σ H Q) : tAnd (tT K B C a) (tT K B C b) σ H Q := by
  obtain ⟨F, env, r, d, env', e, q⟩ := h
  rw [ev] at e
  obtain ⟨⟨da, e1⟩, h1, e⟩ := Option.bind_eq_some_iff.mp e
  obtain ⟨t, h2, ee⟩ := Option.bind_eq_some_iff.mp e
  clear e
  have h2' := isTrueD_in h2
  clear h2
  simp only at h2' ee
  subst h2'
  refine ⟨F, env, r, t, e1, h1, fun F1 H1 s1 => ?_⟩
  cases t with
  | false =>
    rw [if_neg (by decide)] at ee
    cases ee
    exact L2.iteF (q F1 H1 s1)
  | true =>
    rw [if_pos rfl] at ee
    exact L2.iteT ⟨F1, e1, s1.rl, d, env', ee, fun F2 H2 s2 => q F2 H2 (s1.trans s2)⟩
theorem or_impT {a b : Ex} {Q : Bool → Hp → Prop} (h : tT K B C (.or a b) σ H Q) : tOr (tT K B C a) (tT K B C b) σ H Q := by
  obtain ⟨F, env, r, d, env', e, q⟩ := h
  rw [ev] at e
  obtain ⟨⟨da, e1⟩, h1, e⟩ := Option.bind_eq_some_iff.mp e
  obtain ⟨t, h2, ee⟩ := Option.bind_eq_some_iff.mp e
  clear e
  have h2' := isTrueD_in h2
  clear h2
  simp only at h2' ee
  subst h2'
  refine ⟨F, env, r, t, e1, h1, fun F1 H1 s1 => ?_⟩
  cases t with
  | false =>
    rw [if_neg (by decide)] at ee
    exact L2.iteF ⟨F1, e1, s1.rl, d, env', ee, fun F2 H2 s2 => q F2 H2 (s1.trans s2)⟩
  | true =>
    rw [if_pos rfl] at ee
    cases ee
    exact L2.iteT (q F1 H1 s1)
theorem ite_imp {c a b : Ex} {Q : VK} (h : tE K B C (.ite c a b) σ H Q) : tIf (tT K B C c) (tE K B C a) (tE K B C b) σ H Q := by
  obtain ⟨F, env, r, d, env', e, q⟩ := h
  rw [ev] at e
  obtain ⟨⟨da, e1⟩, h1, e⟩ := Option.bind_eq_some_iff.mp e
  obtain ⟨t, h2, ee⟩ := Option.bind_eq_some_iff.mp e
  clear e
  have h2' := isTrueD_in h2
  clear h2
  simp only at h2' ee
  subst h2'
  refine ⟨F, env, r, t, e1, h1, fun F1 H1 s1 => ?_⟩
  cases t with
  | false =>
    rw [if_neg (by decide)] at ee
    exact L2.iteF ⟨F1, e1, s1.rl, d, env', ee, fun v F2 H2 s2 k2 => q v F2 H2 (s1.trans s2) k2⟩
  | true =>
    rw [if_pos rfl] at ee
    exact L2.iteT ⟨F1, e1, s1.rl, d, env', ee, fun v F2 H2 s2 k2 => q v F2 H2 (s1.trans s2) k2⟩
/-- not -/
theorem not_imp {p : Ex} {Q : VK} (h : tE K B C (.not p) σ H Q) : tNotV (tE K B C p) σ H Q := by
  obtain ⟨F, env, r, d, env', e, q⟩ := h
  rw [ev] at e
  obtain ⟨⟨da, e1⟩, h1, e⟩ := Option.bind_eq_some_iff.mp e
  obtain ⟨t, h2, h3⟩ := Option.map_eq_some_iff.mp e
  cases h3
  have h2' := isTrueD_in h2
  simp only at h2'
  subst h2'
  refine ⟨F, env, r, _, e1, h1, fun x F1 H1 s1 k1 => ?_⟩
  cases k1
  exact ⟨t, rfl, q _ F1 H1 s1 (.bl _)⟩
theorem not_impT {p : Ex} {Q : Bool → Hp → Prop} (h : tT K B C (.not p) σ H Q) : tNot (tT K B C p) σ H Q := by
  obtain ⟨F, env, r, d, env', e, q⟩ := h
  rw [ev] at e
  obtain ⟨⟨da, e1⟩, h1, e⟩ := Option.bind_eq_some_iff.mp e
  obtain ⟨t, h2, h3⟩ := Option.map_eq_some_iff.mp e
  cases h3
  have h2' := isTrueD_in h2
  simp only at h2'
  subst h2'
  exact ⟨F, env, r, t, e1, h1, fun F1 H1 s1 => q F1 H1 s1⟩
end
end PD

/-! PD14: the expressions, all of them. -/
namespace PD
open PySem PySem.Spec PyProof.Rows L2

section
variable {X : Cx} {N : List Str} {Γ : Gm} {C : Nat → List D → Option (D × List D)} {k : Nat} {sc : Scope} {B : Bs}

/-- a call of a built-in that is a function or a type -/
theorem pe_bltA {id : String} {x : Str} {p pos : Pos} {a : Expr} {pa : Ex} {o : Pr} (S : Sx X N Γ C k sc) (hb : bltOk Γ sc x = true) (hv : bootBuiltins x = some (.builtin id)) (hc : CallR X (.builtin id) (rPb X.K B o 1)) (ha : PE X a (tO X.K B C pa)) (hn : notStar a = true) :
    PE X (.Call (.Name x p) [a] [] pos) (tE X.K B C (.prm o [pa])) := by
  obtain ⟨g1, g2, g3, g4⟩ := bltOk_in S hb
  refine PE.imp (pe_callB hc g1 g2 hv (pa_cons ha pa_nil (star_cons hn)) g4 g3 (star_cons hn) rfl) fun σ H Q h => ?_
  obtain ⟨F, env, r, o', e1, h1, q1⟩ := tBs_cons (prm_all h)
  refine ⟨F, env, r, o', e1, h1, fun v F1 H1 s1 k1 => ?_⟩
  have q := tBs_nil (q1 v F1 H1 s1 k1)
  exact ⟨rfl, q.2⟩
theorem pe_bltT {T : String} {x : Str} {p pos : Pos} {a : Expr} {pa : Ex} {o : Pr} (S : Sx X N Γ C k sc) (hb : bltOk Γ sc x = true) (hv : bootBuiltins x = some (.type T)) (hc : CallR X (.type T) (rPb X.K B o 1)) (ha : PE X a (tO X.K B C pa)) (hn : notStar a = true) :
    PE X (.Call (.Name x p) [a] [] pos) (tE X.K B C (.prm o [pa])) := by
  obtain ⟨g1, g2, g3, g4⟩ := bltOk_in S hb
  refine PE.imp (pe_callTy hc g1 g2 hv (pa_cons ha pa_nil (star_cons hn)) g4 g3 (star_cons hn) rfl) fun σ H Q h => ?_
  obtain ⟨F, env, r, o', e1, h1, q1⟩ := tBs_cons (prm_all h)
  refine ⟨F, env, r, o', e1, h1, fun v F1 H1 s1 k1 => ?_⟩
  have q := tBs_nil (q1 v F1 H1 s1 k1)
  exact ⟨rfl, q.2⟩
theorem b1_ok {x : Str} {p pos : Pos} {a : Expr} {pa : Ex} {o : Pr} (S : Sx X N Γ C k sc) (hb : bltOk Γ sc x = true) (h : cB1 x = some o) (ha : PE X a (tO X.K B C pa)) (hn : notStar a = true) :
    PE X (.Call (.Name x p) [a] [] pos) (tE X.K B C (.prm o [pa])) := by
  have hu := S.hu
  unfold cB1 at h
  split at h
  · rename_i e; subst e; cases h; exact pe_bltA S hb PySem.boot_len cr_lenP ha hn
  · split at h
    · rename_i e; subst e; cases h; exact pe_bltT S hb PyProof.Rows.boot_int cr_intP ha hn
    · split at h
      · rename_i e; subst e; cases h; exact pe_bltA S hb PyProof.Rows.boot_abs cr_absP ha hn
      · split at h
        · rename_i e; subst e; cases h; exact pe_bltA S hb PyProof.Rows.boot_sum (cr_sumP S.calm) ha hn
        · split at h
          · rename_i e; subst e; cases h; exact pe_bltA S hb PyProof.Rows.boot_all (cr_allP S.calm) ha hn
          · split at h
            · rename_i e; subst e; cases h; exact pe_bltA S hb PyProof.Rows.boot_any (cr_anyP S.calm) ha hn
            · split at h
              · rename_i e; subst e; cases h; exact pe_bltA S hb PyProof.Rows.boot_sorted (cr_sortedP hu) ha hn
              · split at h
                · rename_i e; subst e; cases h; exact pe_bltT S hb PyProof.Rows.boot_list cr_listP ha hn
                · split at h
                  · rename_i e; subst e; cases h; exact pe_bltT S hb PyProof.Rows.boot_tuple cr_tupleP ha hn
                  · split at h
                    · rename_i e; subst e; cases h; exact pe_bltA S hb PyProof.Rows.boot_max (cr_maxP S.calm) ha hn
                    · split at h
                      · rename_i e; subst e; cases h; exact pe_bltA S hb PyProof.Rows.boot_min (cr_minP S.calm) ha hn
                      · split at h
                        · rename_i e; subst e; cases h; exact pe_bltA S hb PyProof.Rows.boot_repr (cr_reprP S.gd hu) ha hn
                        · cases h
theorem b2_ok {x : Str} {p pos : Pos} {a b : Expr} {pa pb : Ex} {o : Pr} (S : Sx X N Γ C k sc) (hb : bltOk Γ sc x = true) (h : cB2 x = some o) (ha : PE X a (tO X.K B C pa)) (hb2 : PE X b (tO X.K B C pb)) (hn : notStar a = true) (hn2 : notStar b = true) :
    PE X (.Call (.Name x p) [a, b] [] pos) (tE X.K B C (.prm o [pa, pb])) := by
  obtain ⟨g1, g2, g3, g4⟩ := bltOk_in S hb
  have gen : ∀ (id : String) (hv : bootBuiltins x = some (.builtin id)) (hc : CallR X (.builtin id) (rPb X.K B o 2)), PE X (.Call (.Name x p) [a, b] [] pos) (tE X.K B C (.prm o [pa, pb])) := fun id hv hc => by
    refine PE.imp (pe_callB hc g1 g2 hv (pa_cons ha (pa_cons hb2 pa_nil (star_cons hn2)) (star_cons hn)) g4 g3 (star_cons hn) (star_none _ _ (by simp [hn2]))) fun σ H Q h => ?_
    obtain ⟨F, env, r, o', e1, h1, q1⟩ := tBs_cons (prm_all h)
    refine ⟨F, env, r, o', e1, h1, fun v F1 H1 s1 k1 => ?_⟩
    obtain ⟨F, env, r, o', e1, h1, q2⟩ := tBs_cons (q1 v F1 H1 s1 k1)
    refine ⟨F, env, r, o', e1, h1, fun v F1 H1 s1 k1 => ?_⟩
    have q := tBs_nil (q2 v F1 H1 s1 k1)
    exact ⟨rfl, q.2⟩
  unfold cB2 at h
  split at h
  · rename_i e; subst e; cases h; exact gen _ PyProof.Rows.boot_max (cr_max2P S.calm)
  · split at h
    · rename_i e; subst e; cases h; exact gen _ PyProof.Rows.boot_min (cr_min2P S.calm)
    · cases h
theorem ty_boot {t : Str} {T : String} (h : cTy t = some T) : bootBuiltins t = some (.type T) := by
  unfold cTy at h
  split at h
  · rename_i e; subst e; cases h; exact PyProof.Rows.boot_int
  · split at h
    · rename_i e; subst e; cases h; exact PyProof.Rows.boot_bool
    · split at h
      · rename_i e; subst e; cases h; exact PyProof.Rows.boot_str
      · split at h
        · rename_i e; subst e; cases h; exact PyProof.Rows.boot_list
        · split at h
          · rename_i e; subst e; cases h; exact PyProof.Rows.boot_tuple
          · split at h
            · rename_i e; subst e; cases h; exact PyProof.Rows.boot_dict
            · cases h
theorem isi_ok {p pos tp : Pos} {a : Expr} {t : Str} {T : String} {pa : Ex} (S : Sx X N Γ C k sc) (hb : bltOk Γ sc "isinstance" = true) (ht : bltOk Γ sc t = true) (h : cTy t = some T) (ha : PE X a (tO X.K B C pa)) (hn : notStar a = true) :
    PE X (.Call (.Name "isinstance" p) [a, .Name t tp] [] pos) (tE X.K B C (.prm (.isi T) [pa])) := by
  obtain ⟨g1, g2, g3, g4⟩ := bltOk_in S hb
  obtain ⟨k1, k2, k3, k4⟩ := bltOk_in S ht
  have pt : PE X (.Name t tp) (tC (.ty T)) := pe_bltn k1 k2 (ty_boot h) rfl k4 k3
  refine PE.imp (pe_callB (cr_isiP (B := B) T) g1 g2 PyProof.Rows.boot_isinstance (pa_cons ha (pa_cons pt pa_nil rfl) (star_cons hn)) g4 g3 (star_cons hn) rfl) fun σ H Q h => ?_
  obtain ⟨F, env, r, o', e1, h1, q1⟩ := tBs_cons (prm_all h)
  refine ⟨F, env, r, o', e1, h1, fun v F1 H1 s1 k1 => ?_⟩
  have q := tBs_nil (q1 v F1 H1 s1 k1)
  exact ⟨v, rfl, q.2⟩
theorem lrange_ok {p pos p2 pos2 : Pos} {a : Expr} {pa : Ex} (S : Sx X N Γ C k sc) (hb : bltOk Γ sc "list" = true) (ht : bltOk Γ sc "range" = true) (ha : PE X a (tO X.K B C pa)) (hn : notStar a = true) :
    PE X (.Call (.Name "list" p) [.Call (.Name "range" p2) [a] [] pos2] [] pos) (tE X.K B C (.prm .lrange [pa])) := by
  obtain ⟨g1, g2, g3, g4⟩ := bltOk_in S hb
  obtain ⟨k1, k2, k3, k4⟩ := bltOk_in S ht
  refine PE.imp (pe_listRg S.calm g1 g2 (prg_1 k1 k2 ha (star_cons hn))) fun σ H Q h => ?_
  obtain ⟨F, env, r, o', e1, h1, q1⟩ := tBs_cons (prm_all h)
  refine ⟨F, env, r, o', e1, h1, fun v F1 H1 s1 k1 => ?_⟩
  have q := tBs_nil (q1 v F1 H1 s1 k1)
  obtain ⟨σ', F2, env2, a2, d2, r2, hv, hp, qq⟩ := rP1_in q.2
  have hp' : qLrange a2 = some d2 := hp
  clear hp
  cases a2 with
  | int n =>
    simp only [qLrange] at hp'
    split at hp'
    · rename_i hz
      cases hp'
      have hr : RpAll X.K F2 (rgV 0 n) (rangeD n) := by
        have : ∀ l : List Nat, RpAll X.K F2 (l.map fun i => V.int (0 + (i : Nat))) (l.map fun (i : Nat) => PyData.int i) := fun l => by
          induction l with
          | nil => exact .nil
          | cons i l ih =>
            refine .cons ?_ ih
            show Rp X.K F2 (V.int (0 + (i : Nat))) (PyData.int i)
            rw [Int.zero_add]
            exact .int _
        have h0 := this (List.range n.toNat)
        unfold rgV rangeD
        rw [Int.sub_zero]
        exact h0
      exact ⟨n, hv.int, ⟨by omega, by omega, by omega, by omega, by omega⟩, finL r2 qq hr⟩
    · cases hp'
  | _ => simp [qLrange] at hp'
/-- what compiles stands without a star -/
theorem cE_ns {n : Nat} {e : Expr} {p : Ex} (h : cE Γ N n sc e = some p) : notStar e = true := by
  cases n with
  | zero => cases h
  | succ n => cases e <;> first | rfl | (simp [cE] at h)
theorem pa_B {e : Expr} {es : List Expr} {p : Ex} {ps : List Ex} (hn : notStar e = true) (h : PE X e (tO X.K B C p)) (hs : PA X es (tBs X.K B C ps)) : PA X (e :: es) (tBs X.K B C (p :: ps)) := PA.imp (pa_cons h hs (star_cons hn)) fun _ _ _ h => tBs_cons h
theorem pa_L {e : Expr} {es : List Expr} {p : Ex} {ps : List Ex} (hn : notStar e = true) (h : PE X e (tE X.K B C p)) (hs : PA X es (tL X.K B C ps)) : PA X (e :: es) (tL X.K B C (p :: ps)) := PA.imp (pa_cons h hs (star_cons hn)) fun _ _ _ h => tL_cons h
/-- tuples, lists -/
theorem tup_ok {es : List Expr} {ps : List Ex} {j : Nat} {pos : Pos} (hl : es.length ≤ 1000) (hlen : ps.length = es.length) (h : PA X es (tL X.K B C ps)) : PE X (.Tuple es j pos) (tE X.K B C (.tup ps)) := by
  refine PE.imp (pe_tup h) fun σ H Q ⟨F, env, r, d, env', e, q⟩ => ?_
  rw [ev] at e
  obtain ⟨⟨ds, e1⟩, h1, h2⟩ := Option.map_eq_some_iff.mp e
  cases h2
  have ll : ∀ {ps : List Ex} {env env' : En} {ds : List D}, evL C ps env = some (ds, env') → ds.length = ps.length := by
    intro ps
    induction ps with
    | nil => intro _ _ _ h; rw [evL] at h; cases h; rfl
    | cons p ps ih =>
      intro _ _ _ h
      obtain ⟨o, e1, r, _, h2, rfl⟩ := evL_cons h
      rw [List.length_cons, List.length_cons, ih h2]
  refine ⟨F, env, r, ds, _, h1, fun vs F1 H1 s1 k1 => ⟨?_, finT s1.rl (fun v F' H' s' hd => q v F' H' (s1.trans s') hd) k1⟩⟩
  rw [RpAll.length k1, ll h1, hlen]
  exact Nat.le_trans hl (by decide)
theorem lst_ok {es : List Expr} {ps : List Ex} {pos : Pos} (hl : es.length ≤ 1000) (hlen : ps.length = es.length) (h : PA X es (tL X.K B C ps)) : PE X (.List es pos) (tE X.K B C (.lst ps)) := by
  refine PE.imp (pe_lst h) fun σ H Q ⟨F, env, r, d, env', e, q⟩ => ?_
  rw [ev] at e
  obtain ⟨⟨ds, e1⟩, h1, h2⟩ := Option.map_eq_some_iff.mp e
  cases h2
  have ll : ∀ {ps : List Ex} {env env' : En} {ds : List D}, evL C ps env = some (ds, env') → ds.length = ps.length := by
    intro ps
    induction ps with
    | nil => intro _ _ _ h; rw [evL] at h; cases h; rfl
    | cons p ps ih =>
      intro _ _ _ h
      obtain ⟨o, e1, r, _, h2, rfl⟩ := evL_cons h
      rw [List.length_cons, List.length_cons, ih h2]
  refine ⟨F, env, r, ds, _, h1, fun vs F1 H1 s1 k1 => ⟨?_, finL s1.rl (fun v F' H' s' hd => q v F' H' (s1.trans s') hd) k1⟩⟩
  rw [RpAll.length k1, ll h1, hlen]
  exact Nat.le_trans hl (by decide)
/-- slices -/
theorem sl_imp {pa : Ex} {σ : L2.St} {H : Hp} {Q : VK} {K : PySem.W.Frag} {lo hi : Bool} {ps : List Ex} (h : tE K B C (.prm (.sl lo hi) (pa :: ps)) σ H Q) : tO K B C pa σ H fun x H1 => tBs K B C ps σ H1 fun vs H2 => ∃ σ' F env a ds d, Rl K B F env σ' H2 ∧ Bo K F H2 x a ∧ BoL K F H2 vs ds ∧ vs.length = ps.length ∧ pr (.sl lo hi) (a :: ds) = some d ∧ ∀ v F' H', Stp K B σ' F env H2 F' env H' → Rp K F' v d → Q v H' := by
  obtain ⟨F, env, r, o, e1, h1, q1⟩ := tBs_cons (prm_all h)
  refine ⟨F, env, r, o, e1, h1, fun v F1 H1 s1 k1 => ?_⟩
  obtain ⟨F2, env2, r2, os, e2, h2, q2⟩ := q1 v F1 H1 s1 k1
  refine ⟨F2, env2, r2, os, e2, h2, fun vs F3 H3 s3 k3 => ?_⟩
  obtain ⟨hl, σ', F4, env4, ds, d, r4, hb, hp, qq⟩ := q2 vs F3 H3 s3 k3
  cases hb with
  | cons hb1 hb2 => exact ⟨σ', F4, env4, _, _, d, r4, hb1, hb2, by simpa using hl, hp, qq⟩
theorem sl0_ok {a : Expr} {pa : Ex} {p2 pos : Pos} (ha : PE X a (tO X.K B C pa)) : PE X (.Subscript a (.Slice none none none p2) pos) (tE X.K B C (.prm (.sl false false) [pa])) := by
  refine PE.imp (pe_slice (slP (B := B)) ha po_none po_none) fun σ H Q h => ?_
  obtain ⟨F, env, r, o, e1, h1, q1⟩ := sl_imp h
  refine ⟨F, env, r, o, e1, h1, fun v F1 H1 s1 k1 => ?_⟩
  obtain ⟨σ', F4, env4, a', ds, d, r4, hb1, hb2, hl, hp, qq⟩ := tBs_nil (q1 v F1 H1 s1 k1)
  cases hb2
  exact ⟨σ', F4, env4, a', d, r4, hb1, hp, qq⟩
theorem sl1_ok {a l : Expr} {pa pl : Ex} {p2 pos : Pos} (ha : PE X a (tO X.K B C pa)) (hl : PE X l (tO X.K B C pl)) : PE X (.Subscript a (.Slice (some l) none none p2) pos) (tE X.K B C (.prm (.sl true false) [pa, pl])) := by
  refine PE.imp (pe_slice (slP (B := B)) ha (po_some hl) po_none) fun σ H Q h => ?_
  obtain ⟨F, env, r, o, e1, h1, q1⟩ := sl_imp h
  refine ⟨F, env, r, o, e1, h1, fun v F1 H1 s1 k1 => ?_⟩
  obtain ⟨F, env, r, o, e1, h1, q2⟩ := tBs_cons (q1 v F1 H1 s1 k1)
  refine ⟨F, env, r, o, e1, h1, fun w F2 H2 s2 k2 => ?_⟩
  obtain ⟨σ', F4, env4, a', ds, d, r4, hb1, hb2, hl, hp, qq⟩ := tBs_nil (q2 w F2 H2 s2 k2)
  obtain ⟨b', rfl, hb⟩ := one hb2
  have hp : pr2 (.sl true false) a' b' = some d := hp
  cases b' with
  | int i => exact ⟨i, hb.int, σ', F4, env4, a', d, r4, hb1, hp, qq⟩
  | _ => cases hp
theorem sl2_ok {a l : Expr} {pa pl : Ex} {p2 pos : Pos} (ha : PE X a (tO X.K B C pa)) (hl : PE X l (tO X.K B C pl)) : PE X (.Subscript a (.Slice none (some l) none p2) pos) (tE X.K B C (.prm (.sl false true) [pa, pl])) := by
  refine PE.imp (pe_slice (slP (B := B)) ha po_none (po_some hl)) fun σ H Q h => ?_
  obtain ⟨F, env, r, o, e1, h1, q1⟩ := sl_imp h
  refine ⟨F, env, r, o, e1, h1, fun v F1 H1 s1 k1 => ?_⟩
  obtain ⟨F, env, r, o, e1, h1, q2⟩ := tBs_cons (q1 v F1 H1 s1 k1)
  refine ⟨F, env, r, o, e1, h1, fun w F2 H2 s2 k2 => ?_⟩
  obtain ⟨σ', F4, env4, a', ds, d, r4, hb1, hb2, hl, hp, qq⟩ := tBs_nil (q2 w F2 H2 s2 k2)
  obtain ⟨b', rfl, hb⟩ := one hb2
  have hp : pr2 (.sl false true) a' b' = some d := hp
  cases b' with
  | int i => exact ⟨i, hb.int, σ', F4, env4, a', d, r4, hb1, hp, qq⟩
  | _ => cases hp
theorem rs_int {env : En} {o : Op} {i : Int} (h : rs env o = some (.int i)) : o = .inl (.int i) := by
  cases o with
  | inl d => cases h; rfl
  | inr j =>
    have h : (match slot env j with | .own ds => some (PyData.list ds) | .brw ds => some (.list ds) | _ => none) = some (.int i) := h
    cases e : slot env j <;> rw [e] at h <;> cases h
theorem sl3_ok {a l h : Expr} {pa pl ph : Ex} {p2 pos : Pos} (ha : PE X a (tO X.K B C pa)) (hl : PE X l (tO X.K B C pl)) (hh : PE X h (tO X.K B C ph)) : PE X (.Subscript a (.Slice (some l) (some h) none p2) pos) (tE X.K B C (.prm (.sl true true) [pa, pl, ph])) := by
  refine PE.imp (pe_slice (slP (B := B)) ha (po_some hl) (po_some hh)) fun σ H Q ⟨F, env, r, d, env', e, q⟩ => ?_
  rw [ev] at e
  obtain ⟨⟨os, e3⟩, g1, e⟩ := Option.bind_eq_some_iff.mp e
  obtain ⟨ds, g2, e⟩ := Option.bind_eq_some_iff.mp e
  obtain ⟨d', g3, g4⟩ := Option.map_eq_some_iff.mp e
  cases g4
  obtain ⟨oa, e1, os1, a1, gA, rfl⟩ := evB_cons g1
  obtain ⟨ol, e2, os2, a2, gB, rfl⟩ := evB_cons gA
  obtain ⟨oh, e4, os3, a3, gC, rfl⟩ := evB_cons gB
  rw [evB] at gC
  cases gC
  simp only [rsL] at g2
  obtain ⟨da, b1, w1⟩ := Option.bind_eq_some_iff.mp g2
  obtain ⟨dr1, w2, rfl⟩ := Option.map_eq_some_iff.mp w1
  obtain ⟨dl, b2, w3⟩ := Option.bind_eq_some_iff.mp w2
  obtain ⟨dr2, w4, rfl⟩ := Option.map_eq_some_iff.mp w3
  obtain ⟨dh, b3, w5⟩ := Option.bind_eq_some_iff.mp w4
  obtain ⟨dr3, w6, rfl⟩ := Option.map_eq_some_iff.mp w5
  cases w6
  have hp : pr3 (.sl true true) da dl dh = some d := g3
  cases dl with
  | int i =>
    cases dh with
    | int j =>
      have ei := rs_int b2
      have ej := rs_int b3
      subst ei ej
      refine ⟨F, env, r, oa, e1, a1, fun v F1 H1 s1 k1 => ⟨F1, e1, s1.rl, _, e2, a2, fun w F2 H2 s2 k2 => ?_⟩⟩
      cases k2
      refine ⟨i, rfl, F2, e2, s2.rl, _, _, a3, fun w F3 H3 s3 k3 => ?_⟩
      cases k3
      exact ⟨j, rfl, σ, F3, _, da, d, s3.rl, s3.rl.bo (k1.mono (s2.ff.trans s3.ff)) b1, hp, fun v F' H' s' hd => q v F' H' (s1.trans (s2.trans (s3.trans s'))) hd⟩
    | _ => cases hp
  | _ => cases hp
end
end PD

/-! PD15: the expressions, all of them together. -/
namespace PD
open PySem PySem.Spec PyProof.Rows L2

section
variable {X : Cx} {N : List Str} {Γ : Gm} {C : Nat → List D → Option (D × List D)} {k : Nat} {sc : Scope} {B : Bs}
theorem gl_in (S : Sx X N Γ C k sc) {f : Str} (h : glB sc f = true) : Gl X f := by
  show X.env.scope.names.lookup f = some .globalImplicit
  rw [S.hsc]
  exact gl_of h
theorem odd_db {f : Str} (h : oddName f = false) : (f == ("__debug__" : Str)) = false := by
  unfold oddName at h
  rw [Bool.or_eq_false_iff, Bool.or_eq_false_iff] at h
  exact h.1.1
theorem name_ok (S : Sx X N Γ C k sc) {x : Str} {p : Ex} {pos : Pos} (h : cName Γ N sc x = some p) : PE X (.Name x pos) (tE X.K B C p) ∧ PE X (.Name x pos) (tO X.K B C p) := by
  unfold cName at h
  split at h
  · cases h
  · rename_i ho
    have ho : oddName x = false := by simpa using ho
    split at h
    · rename_i hv
      obtain ⟨i, hi, rfl⟩ := Option.map_eq_some_iff.mp h
      exact pe_varE (by rw [S.hN]; exact ixOf_get hi) (by rw [S.hsc]; exact vis_of hv) ho
    · split at h
      · rename_i hg
        obtain ⟨d, hd, rfl⟩ := Option.map_eq_some_iff.mp h
        obtain ⟨v, u, e1, e2, e3⟩ := S.gok.cons x d hd
        have b : PE X (.Name x pos) (tE X.K B C (.con d)) := pe_conE (pe_glob (gl_in S hg) e1 e2 (odd_db ho)) e3
        exact ⟨b, PE.imp b fun _ _ _ h => tO_of (fun _ z => by cases z) h⟩
      · cases h
/-- a call of a def -/
theorem call_ok (S : Sx X N Γ C k sc) {f : Str} {i : Nat} {ps : List Str} {es : List Expr} {qs : List Ex} {p pos : Pos} (hg : glB sc f = true) (ho : oddName f = false) (hd : Γ.defs.lookup f = some (i, ps, false)) (hs : es.all notStar = true) (hA : PA X es (tL X.K B C qs)) (hn : es = [] → qs = []) :
    PE X (.Call (.Name f p) es [] pos) (tE X.K B C (.call i [] qs)) := by
  obtain ⟨fa, fd, h1, h2, h3, h4⟩ := S.gok.defs f i ps false hd
  have h4 : FG X.prog X.w X.K X.mg X.base CX0 k fa fd ps (sp0 X.K (C i)) := h4
  have key : ∀ {σ : L2.St} {H : Hp} {Q : VK}, tE X.K B C (.call i [] qs) σ H Q → tL X.K B C qs σ H fun vs H1 => sp0 X.K (C i) vs H1 Q E0 := fun {σ H Q} ⟨F, env, r, d, env', e, q⟩ => by
    rw [ev] at e
    obtain ⟨⟨ds, e1⟩, g1, e⟩ := Option.bind_eq_some_iff.mp e
    obtain ⟨ds', g2, e⟩ := Option.bind_eq_some_iff.mp e
    cases g2
    obtain ⟨⟨d', gs⟩, g3, g4⟩ := Option.map_eq_some_iff.mp e
    cases g4
    exact ⟨F, env, r, ds, _, g1, fun vs F1 H1 s1 k1 => ⟨F1, ds, d', gs, s1.rl.fh, k1, g3, fun v F' H' po hv => q v F' H' (s1.trans (s1.rl.called po)) hv⟩⟩
  cases es with
  | nil =>
    have := hn rfl
    subst this
    exact PE.imp (pe_callG0 (E := E0) h4 S.gd S.room (gl_in S hg) h1 h2 h3 pass0 (odd_db ho)) fun σ H Q h => tL_nil (key h)
  | cons e es => exact PE.imp (pe_callG (E := E0) h4 S.gd S.room (gl_in S hg) h1 h2 h3 pass0 hA (odd_db ho) hs) fun σ H Q h => key h
theorem callg_ok (S : Sx X N Γ C k sc) {f g : Str} {i j : Nat} {ps : List Str} {es : List Expr} {qs : List Ex} {p pos pg : Pos} (hg : glB sc f = true) (ho : oddName f = false) (hd : Γ.defs.lookup f = some (i, ps, true)) (hs : es.all notStar = true) (hA : PA X es (tL X.K B C qs)) (hv : cName Γ N sc g = some (.var j)) :
    PE X (.Call (.Name f p) (.Name g pg :: es) [] pos) (tE X.K B C (.callg i j qs)) := by
  obtain ⟨fa, fd, h1, h2, h3, h4⟩ := S.gok.defs f i ps true hd
  have h4 : FG X.prog X.w X.K X.mg X.base CX0 k fa fd ps (sp1 X.K (C i)) := h4
  have hG := (name_ok (pos := pg) (B := B) S hv).2
  refine PE.imp (pe_callG (E := E0) h4 S.gd S.room (gl_in S hg) h1 h2 h3 pass0 (pa_cons hG hA (star_cons rfl)) (odd_db ho) (by simpa [notStar] using hs)) fun σ H Q ⟨F, env, r, d, env', e, q⟩ => ?_
  rw [ev] at e
  split at e
  · rename_i m
    obtain ⟨⟨ds, e1⟩, g1, e⟩ := Option.bind_eq_some_iff.mp e
    have op : opd (.var j) (ev C (.var j)) env = some (.inr j, env) := by
      show (if isMut (slot env j) = true then some (Sum.inr j, env) else _) = _
      rw [if_pos m]
    refine ⟨F, env, r, .inr j, env, op, fun x F1 H1 s1 k1 => ⟨F1, env, s1.rl, ds, e1, g1, fun vs F2 H2 s2 k2 => ?_⟩⟩
    have k1 : svAt σ j = some x := k1
    have fin : ∀ (gs gs' : List D) (d' : D), isMut (slot e1 j) = true → (∃ a us, x = .ref a ∧ H2 a = some (.lst us) ∧ F2 a = none ∧ RpAll X.K F2 us gs) → C i (.list gs :: ds) = some (d', gs') → d' = d → e1.set j (setG (slot e1 j) gs') = env' →
        sp1 X.K (C i) (x :: vs) H2 Q E0 := fun gs gs' d' mj ⟨a, us, hx, ha, hf, hr⟩ hC hd' he => by
      subst hx hd' he
      exact ⟨F2, a, us, gs, vs, ds, d', gs', rfl, s2.rl.fh, ha, hf, hr, k2, hC, fun v F' H' po hv => q v F' H' (s1.trans (s2.trans (s2.rl.calledG mj k1 po))) hv⟩
    have hs2 := s2.rl.sl j
    rw [k1] at hs2
    simp only at e
    cases hq : slot e1 j with
    | no => rw [hq] at e; cases e
    | val d => rw [hq] at e; cases e
    | own gs =>
      rw [hq] at e hs2
      obtain ⟨⟨d', gs'⟩, g3, g4⟩ := Option.map_eq_some_iff.mp e
      obtain ⟨a, us, e1', e2', e3', _, e5'⟩ := hs2
      cases e1'
      have g5 := congrArg Prod.fst g4
      have g6 := congrArg Prod.snd g4
      exact fin gs gs' d' (by rw [hq]; rfl) ⟨a, us, rfl, e2', e3', e5'⟩ g3 g5 (by rw [hq]; exact g6)
    | brw gs =>
      rw [hq] at e hs2
      obtain ⟨⟨d', gs'⟩, g3, g4⟩ := Option.map_eq_some_iff.mp e
      obtain ⟨a, us, e1', _, e2', e3', e5'⟩ := hs2
      cases e1'
      have g5 := congrArg Prod.fst g4
      have g6 := congrArg Prod.snd g4
      exact fin gs gs' d' (by rw [hq]; rfl) ⟨a, us, rfl, e2', e3', e5'⟩ g3 g5 (by rw [hq]; exact g6)
  · cases e

theorem kwEach (pos : Pos) (env : Env) : ∀ kws : List Keyword, (backToKw pos (keywordEach kws env)).map (·.1) = kws.map (·.arg)
  | [] => rfl
  | ⟨nm, e, kp⟩ :: r => by
    have ih := kwEach pos env r
    unfold backToKw at ih ⊢
    rw [keywordEach, List.map_cons, List.map_cons, ih]
    rfl
theorem paired_get {α β : Type} {R : α → β → Prop} : ∀ {xs : List α} {ys : List β} {i : Nat} {y : β}, Paired R xs ys → ys[i]? = some y → ∃ x, xs[i]? = some x ∧ R x y
  | _, _, _, _, .nil, e => by simp at e
  | _, _, 0, _, .cons hr ht, e => by simp at e; subst e; exact ⟨_, rfl, hr⟩
  | _, _, i + 1, _, .cons hr ht, e => by
    obtain ⟨x, h1, h2⟩ := paired_get (i := i) ht (by simpa using e)
    exact ⟨x, by simpa using h1, h2⟩
theorem flip_vals : ∀ {vs : List V} {us : List Value}, Vals vs us → Paired (fun (u : Value) (v : V) => RelV v u) us vs
  | _, _, .nil => .nil
  | _, _, .cons a b => .cons a (flip_vals b)
theorem vals_flip : ∀ {us : List Value} {vs : List V}, Paired (fun (u : Value) (v : V) => RelV v u) us vs → Vals vs us
  | _, _, .nil => .nil
  | _, _, .cons a b => .cons a (vals_flip b)
theorem mapM_rel {α β : Type} {R : α → β → Prop} {xs : List α} {ys : List β} (h : Paired R xs ys) : ∀ {perm : List Nat} {zs : List β}, perm.mapM (fun i => ys[i]?) = some zs → ∃ us, perm.mapM (fun i => xs[i]?) = some us ∧ Paired R us zs
  | [], zs, e => by
    have e : some [] = some zs := e
    cases e
    exact ⟨[], rfl, .nil⟩
  | i :: r, zs, e => by
    rw [List.mapM_cons] at e
    obtain ⟨y, e1, e⟩ := Option.bind_eq_some_iff.mp e
    obtain ⟨zr, e2, e⟩ := Option.bind_eq_some_iff.mp e
    cases e
    obtain ⟨us, h1, h2⟩ := mapM_rel h e2
    obtain ⟨x, h3, h4⟩ := paired_get h e1
    exact ⟨x :: us, by rw [List.mapM_cons, h3]; show (some x >>= fun _ => _) = _; rw [h1]; rfl, .cons h4 h2⟩
theorem run_gk {X : Cx} {CX : CXT} {f : Addr} {fd : FuncData} {ps ks : List Str} {perm : List Nat} {sp : Sp} {E : XK} {pins : List (Addr × Obj)} {σ : L2.St} {H : Hp} {s : Shared} {Q : VK} {ws us : List Value} {vs : List V} (F : FG X.prog X.w X.K X.mg X.base CX k f fd ps sp) (hg : X.A.guards = some []) (hr : Room k X.A) (hb : KB X.K fd ps ks perm) (hx : Passes CX X E)
    (I : Inv X pins σ H s) (r : Vals vs us) (hl : ws.length = ks.length) (hp : perm.mapM (fun i => ws[i]?) = some us) (h : sp vs H Q E) : wpAny (model X.prog X.w) X.A (call (.ref f) [] (ks.zip ws)) (EP X pins σ Q) X.xe s := by
  have c := F.run X.A X.stack s H ⟨[], ks.zip ws⟩ us vs Q E hg hr I.env0 (hb s ws us I.kIn hl hp) r h
  refine wpAny_call (codeAny_mono c fun res s' hq => ?_)
  match res, hq with
  | .error e, hq => exact hx pins σ H s e s' I hq
  | .ok (.ret u), hq => exact I.after hq
  | .ok .next, hq => exact False.elim hq
  | .ok .brk, hq => exact False.elim hq
  | .ok .cont, hq => exact False.elim hq
/-- a call by names alone -/
theorem pe_callKG {X : Cx} {CX : CXT} {f : Addr} {fd : FuncData} {x : Str} {ps ks : List Str} {perm : List Nat} {sp : Sp} {E : XK} {p pos : Pos} {kws : List Keyword} {t : TA} (F : FG X.prog X.w X.K X.mg X.base CX k f fd ps sp) (hgd : X.A.guards = some []) (hr : Room k X.A) (hg : Gl X x) (hm : X.mg x = some (.ref f)) (hk : PySem.W.keepIn X.K (.ref f) = true) (hb : KB X.K fd ps ks perm) (hx : Passes CX X E)
    (ha : PK X kws t) (hdb : (x == ("__debug__" : Str)) = false) (hs : kws.all (·.arg.isSome) = true) (hks : kws.filterMap (·.arg) = ks) :
    PE X (.Call (.Name x p) [] kws pos) (fun σ H Q => t σ H fun zs H1 => zs.length = ks.length ∧ ∃ vs, perm.mapM (fun i => zs[i]?) = some vs ∧ sp vs H1 Q E) := by
  refine ⟨fun pins s σ H Q I h => wpAny_Call_Name_kw (ld_glob I hg hm ?_ hdb)⟩
  have e1 := kwEach pos X.env kws
  have hall : (backToKw pos (keywordEach kws X.env)).all (·.1.isSome) = true := by
    have := List.all_map (f := fun q : Option Str × Sem Value => q.1) (p := Option.isSome) (l := backToKw pos (keywordEach kws X.env))
    rw [e1, List.all_map] at this
    exact this.symm.trans hs
  have hnon : (backToKw pos (keywordEach kws X.env)).any (·.1.isNone) = false := by
    rw [List.any_eq_false]
    intro q hq
    have := List.all_eq_true.mp hall q hq
    cases e : q.1 with
    | none => rw [e] at this; cases this
    | some z => simp
  have hn : (backToKw pos (keywordEach kws X.env)).filterMap (·.1) = ks := by
    rw [← hks]
    have a := List.filterMap_map (f := fun q : Option Str × Sem Value => q.1) (g := id) (l := backToKw pos (keywordEach kws X.env))
    rw [e1, List.filterMap_map] at a
    exact a.symm
  refine PySem.W.callWith_KW0 (h₀ := X.base) I.ok.mod.kin hk hall (thn (ha.run pos pins s σ H _ I h) fun ws s1 ⟨zs, H1, I1, rz, hl, vs, hp, q⟩ => ⟨I1.kIn, ?_⟩) (by rw [hnon]; rfl)
  rw [hn]
  obtain ⟨us, hu, ru⟩ := mapM_rel (flip_vals rz) hp
  have rv := vals_flip ru
  exact run_gk F hgd hr hb hx I1 rv (by rw [← rz.length]; exact hl) hu q
theorem paired_of {K : PySem.W.Frag} {F : Hp} : ∀ {vs : List V} {ds : List D}, RpAll K F vs ds → Paired (fun v d => Rp K F v d) vs ds
  | _, _, .nil => .nil
  | _, _, .cons h t => .cons h (paired_of t)
theorem of_paired {K : PySem.W.Frag} {F : Hp} {vs : List V} {ds : List D} (h : Paired (fun v d => Rp K F v d) vs ds) : RpAll K F vs ds := by
  induction h with
  | nil => exact .nil
  | cons a b ih => exact .cons a ih
theorem callk_ok (S : Sx X N Γ C k sc) {f : Str} {i : Nat} {ps ks : List Str} {perm : List Nat} {kws : List Keyword} {qs : List Ex} {p pos : Pos} (hg : glB sc f = true) (ho : oddName f = false) (hd : Γ.defs.lookup f = some (i, ps, false)) (hm : (f, ks, perm) ∈ Γ.kws) (hne : perm ≠ [])
    (hs : kws.all (·.arg.isSome) = true) (hks : kws.filterMap (·.arg) = ks) (hl : qs.length = ks.length) (hA : PK X kws (tL X.K B C qs)) : PE X (.Call (.Name f p) [] kws pos) (tE X.K B C (.call i perm qs)) := by
  obtain ⟨fa, fd, h1, h2, h3, h4⟩ := S.gok.kws f i ps ks perm hd hm
  have h4 : FG X.prog X.w X.K X.mg X.base CX0 k fa fd ps (sp0 X.K (C i)) := h4
  refine PE.imp (pe_callKG (E := E0) h4 S.gd S.room (gl_in S hg) h1 h2 h3 pass0 hA (odd_db ho) hs hks) fun σ H Q ⟨F, env, r, d, env', e, q⟩ => ?_
  rw [ev] at e
  obtain ⟨⟨ds, e1⟩, g1, e⟩ := Option.bind_eq_some_iff.mp e
  obtain ⟨ds', g2, e⟩ := Option.bind_eq_some_iff.mp e
  obtain ⟨⟨d', gs⟩, g3, g4⟩ := Option.map_eq_some_iff.mp e
  cases g4
  have g2 : perm.mapM (fun i => ds[i]?) = some ds' := by
    unfold permL at g2
    split at g2
    · exact absurd rfl hne
    · exact g2
  have ll : ∀ {ps : List Ex} {env env' : En} {ds : List D}, evL C ps env = some (ds, env') → ds.length = ps.length := by
    intro ps
    induction ps with
    | nil => intro _ _ _ h; rw [evL] at h; cases h; rfl
    | cons p ps ih =>
      intro _ _ _ h
      obtain ⟨o, e1, r, _, h2, rfl⟩ := evL_cons h
      rw [List.length_cons, List.length_cons, ih h2]
  refine ⟨F, env, r, ds, _, g1, fun vs F1 H1 s1 k1 => ⟨by rw [RpAll.length k1, ll g1, hl], ?_⟩⟩
  obtain ⟨us, hu, ru⟩ := mapM_rel (paired_of k1) g2
  exact ⟨us, hu, F1, ds', d', gs, s1.rl.fh, of_paired ru, g3, fun v F' H' po hv => q v F' H' (s1.trans (s1.rl.called po)) hv⟩

/-- what is said of an expression -/
def EOk (X : Cx) (B : Bs) (C : Nat → List D → Option (D × List D)) (e : Expr) (p : Ex) : Prop := PE X e (tE X.K B C p) ∧ PE X e (tO X.K B C p) ∧ ∀ m, tstB m e = true → PT X e (tT X.K B C p)
theorem EOk.of {e : Expr} {p : Ex} (hp : ∀ i, p ≠ .var i) (h : PE X e (tE X.K B C p)) (ht : ∀ m, tstB m e = true → PT X e (tT X.K B C p)) : EOk X B C e p := ⟨h, PE.imp h fun _ _ _ h => tO_of hp h, ht⟩
theorem pt_plain {e : Expr} {p : Ex} (h : PE X e (tE X.K B C p)) (he : ∀ whole, isTrue e X.env whole = (do let v ← whole; standAt e.pos; holding [v] (truthy v))) : PT X e (tT X.K B C p) := PT.imp (pt_val h he) fun _ _ _ h => tT_val h
theorem eval_len {n : Nat} {es : List Expr} {ps : List Ex} (h : cL Γ N n sc es = some ps) : ps.length = es.length := by
  induction n generalizing es ps with
  | zero => cases h
  | succ n ih =>
    cases es with
    | nil => simp only [cL] at h; cases h; rfl
    | cons e es =>
      simp only [cL] at h
      split at h
      · obtain ⟨p, _, h⟩ := Option.bind_eq_some_iff.mp h
        obtain ⟨qs, h2, rfl⟩ := Option.map_eq_some_iff.mp h
        rw [List.length_cons, List.length_cons, ih h2]
      · cases h
end
end PD

/-! PD16: the expressions: the induction. -/
namespace PD
open PySem PySem.Spec PyProof.Rows L2
theorem PW.imp {X : Cx} {e : Expr} {t t' : TT} (h : PW X e t) (w : ∀ σ H Q, t' σ H Q → t σ H Q) : PW X e t' := ⟨fun wh pins s σ H Q I q => h.run wh pins s σ H Q I (w σ H Q q)⟩
section
variable {N : List Str} {Γ : Gm} {C : Nat → List D → Option (D × List D)} {k : Nat} {B : Bs}
/-- what is said at a depth -/
structure At (N : List Str) (Γ : Gm) (C : Nat → List D → Option (D × List D)) (k : Nat) (B : Bs) (n : Nat) : Prop where
  e : ∀ sc e p, cE Γ N n sc e = some p → ∀ X : Cx, Sx X N Γ C k sc → EOk X B C e p
  l : ∀ sc es ps, cL Γ N n sc es = some ps → ∀ X : Cx, Sx X N Γ C k sc → PA X es (tL X.K B C ps) ∧ es.all notStar = true
  and : ∀ sc es p, cAnd Γ N n sc es = some p → ∀ (X : Cx) (pos : Pos), Sx X N Γ C k sc → PE X (.BoolOp .And es pos) (tE X.K B C p) ∧ ∀ m, es.all (tstB m) = true → PW X (.BoolOp .And es pos) (tT X.K B C p)
  or : ∀ sc es p, cOr Γ N n sc es = some p → ∀ (X : Cx) (pos : Pos), Sx X N Γ C k sc → PE X (.BoolOp .Or es pos) (tE X.K B C p) ∧ ∀ m, es.all (tstB m) = true → PW X (.BoolOp .Or es pos) (tT X.K B C p)
theorem nm (P : ∀ i : Nat, (p : Ex) ≠ .var i) : ∀ i, p ≠ .var i := P
theorem and_nv {n : Nat} {sc : Scope} {es : List Expr} {p : Ex} (h : cAnd Γ N n sc es = some p) (h2 : 2 ≤ es.length) : ∀ i, p ≠ .var i := by
  cases n with
  | zero => cases h
  | succ n =>
    match es, h2 with
    | a :: b :: r, _ =>
      simp only [cAnd] at h
      obtain ⟨q, _, h⟩ := Option.bind_eq_some_iff.mp h
      obtain ⟨q', _, rfl⟩ := Option.map_eq_some_iff.mp h
      exact fun i z => by cases z
theorem or_nv {n : Nat} {sc : Scope} {es : List Expr} {p : Ex} (h : cOr Γ N n sc es = some p) (h2 : 2 ≤ es.length) : ∀ i, p ≠ .var i := by
  cases n with
  | zero => cases h
  | succ n =>
    match es, h2 with
    | a :: b :: r, _ =>
      simp only [cOr] at h
      obtain ⟨q, _, h⟩ := Option.bind_eq_some_iff.mp h
      obtain ⟨q', _, rfl⟩ := Option.map_eq_some_iff.mp h
      exact fun i z => by cases z
theorem bh_set {op : CmpOp} {b : Expr} (h : notSet b = true) : behindInMarks op b = false := by
  cases b <;> first | rfl | cases h
theorem lm_set {op op' : CmpOp} {b c : Expr} (h : notSet c = true) : lastMarks [op, op'] [b, c] = false := by
  show lastMarks [op'] [c] = false
  exact bh_set h
theorem fs_set {e : Expr} {env : Env} (h : notSet e = true) : ∀ x, foldedSetIterable e env x = pure x := by
  intro x
  cases e <;> first | rfl | cases h
theorem px_slice {b : Expr} (h : notSlice b = true) : PlainIx b := by
  intro o i
  cases b <;> first | rfl | cases h
theorem attr_call {o : Expr} {m : Str} {env : Env} (h : notCall o = true) : attributeBase o m env (eval o env) = eval o env := by
  cases o <;> first | rfl | cases h
theorem ix_in {X : Cx} {a b : Expr} {pa pb : Ex} {pos : Pos} (hs : notSlice b = true) (ha : PE X a (tO X.K B C pa)) (hb : PE X b (tO X.K B C pb)) : PE X (.Subscript a b pos) (tE X.K B C (.prm .ix [pa, pb])) :=
  PE.imp (pe_ix (ixP (B := B)) ha hb (px_slice hs)) fun _ _ _ h => prm_two h
theorem blk_sto {X : Cx} {sc scope : Scope} (S : Sx X N Γ C k sc) (s : Shared) (H : Hp) (D : Addr) (cl : List (Str × Addr)) (fp : List Addr) : Sto (X.blk s H scope (compEnvC scope cl D X.env) fp) scope := fun x h => by
  have hsc : (X.blk s H scope (compEnvC scope cl D X.env) fp).env.scope = relS scope X.env.scope := rfl
  rw [hsc]
  rcases loc_of h with e | e
  · have := lookup_relS_keep (sc := X.env.scope) (by decide) e
    exact ⟨.inl this, .inr this⟩
  · have := lookup_relS_keep (sc := X.env.scope) (by decide) e
    refine ⟨.inr this, .inl ?_⟩
    show (scope.names.lookup x == some .cell) = true
    rw [e]; rfl
end
end PD

/-! PD17: the expressions: the induction's steps. -/
namespace PD
open PySem PySem.Spec PyProof.Rows L2
section
variable {N : List Str} {Γ : Gm} {C : Nat → List D → Option (D × List D)} {k : Nat} {B : Bs} {n : Nat}
theorem at0 : At N Γ C k B 0 := ⟨fun _ _ _ h => (by cases h), fun _ _ _ h => (by cases h), fun _ _ _ h => (by cases h), fun _ _ _ h => (by cases h)⟩
theorem at_l (A : At N Γ C k B n) : ∀ sc es ps, cL Γ N (n + 1) sc es = some ps → ∀ X : Cx, Sx X N Γ C k sc → PA X es (tL X.K B C ps) ∧ es.all notStar = true := fun sc es ps h X S => by
  cases es with
  | nil => simp only [cL] at h; cases h; exact ⟨PA.imp pa_nil fun _ _ _ h => tL_nil h, rfl⟩
  | cons e r =>
    simp only [cL] at h
    split at h
    · rename_i hn
      obtain ⟨p, h1, h⟩ := Option.bind_eq_some_iff.mp h
      obtain ⟨qs, h2, rfl⟩ := Option.map_eq_some_iff.mp h
      obtain ⟨g1, g2⟩ := A.l sc r qs h2 X S
      exact ⟨pa_L hn (A.e sc e p h1 X S).1 g1, by rw [List.all_cons, hn, g2]; rfl⟩
    · cases h
theorem at_and (A : At N Γ C k B n) : ∀ sc es p, cAnd Γ N (n + 1) sc es = some p → ∀ (X : Cx) (pos : Pos), Sx X N Γ C k sc → PE X (.BoolOp .And es pos) (tE X.K B C p) ∧ ∀ m, es.all (tstB m) = true → PW X (.BoolOp .And es pos) (tT X.K B C p) := fun sc es p h X pos S => by
  match es, h with
  | [], h => simp [cAnd] at h
  | [e], h =>
    simp only [cAnd] at h
    obtain ⟨h1, h2, h3⟩ := A.e sc e p h X S
    refine ⟨pe_one h1, fun m hm => ?_⟩
    simp only [List.all_cons, List.all_nil, Bool.and_true] at hm
    exact pw_and1 (h3 m hm)
  | a :: b :: r, h =>
    simp only [cAnd] at h
    obtain ⟨q, g1, h⟩ := Option.bind_eq_some_iff.mp h
    obtain ⟨q', g2, rfl⟩ := Option.map_eq_some_iff.mp h
    obtain ⟨h1, h2, h3⟩ := A.e sc a q g1 X S
    obtain ⟨k1, k2⟩ := A.and sc (b :: r) q' g2 X pos S
    refine ⟨PE.imp (pe_and h1 k1) fun _ _ _ h => and_imp h, fun m hm => ?_⟩
    rw [List.all_cons, Bool.and_eq_true] at hm
    exact PW.imp (pw_and (h3 m hm.1) (k2 m hm.2)) fun _ _ _ h => and_impT h
theorem at_or (A : At N Γ C k B n) : ∀ sc es p, cOr Γ N (n + 1) sc es = some p → ∀ (X : Cx) (pos : Pos), Sx X N Γ C k sc → PE X (.BoolOp .Or es pos) (tE X.K B C p) ∧ ∀ m, es.all (tstB m) = true → PW X (.BoolOp .Or es pos) (tT X.K B C p) := fun sc es p h X pos S => by
  match es, h with
  | [], h => simp [cOr] at h
  | [e], h =>
    simp only [cOr] at h
    obtain ⟨h1, h2, h3⟩ := A.e sc e p h X S
    refine ⟨pe_one h1, fun m hm => ?_⟩
    simp only [List.all_cons, List.all_nil, Bool.and_true] at hm
    exact pw_or1 (h3 m hm)
  | a :: b :: r, h =>
    simp only [cOr] at h
    obtain ⟨q, g1, h⟩ := Option.bind_eq_some_iff.mp h
    obtain ⟨q', g2, rfl⟩ := Option.map_eq_some_iff.mp h
    obtain ⟨h1, h2, h3⟩ := A.e sc a q g1 X S
    obtain ⟨k1, k2⟩ := A.or sc (b :: r) q' g2 X pos S
    refine ⟨PE.imp (pe_or h1 k1) fun _ _ _ h => or_imp h, fun m hm => ?_⟩
    rw [List.all_cons, Bool.and_eq_true] at hm
    exact PW.imp (pw_or (h3 m hm.1) (k2 m hm.2)) fun _ _ _ h => or_impT h

/-- a comparison -/
theorem cmp1_ok {X : Cx} {sc : Scope} (S : Sx X N Γ C k sc) {a b : Expr} {pa pb : Ex} {op : CmpOp} {o : Pr} {pos : Pos} (ho : cCmp op = some o) (hs : notSet b = true) (ha : PE X a (tO X.K B C pa)) (hb : PE X b (tO X.K B C pb)) : EOk X B C (.Compare a [op] [b] pos) (.prm o [pa, pb]) := by
  have hu : X.A.units + 65 < cLine := Nat.lt_of_le_of_lt (by omega) S.hu
  refine EOk.of (fun _ z => by cases z) (PE.imp (pe_cmpR (cmpP hu ho) ha hb (bh_set hs)) fun _ _ _ h => prm_two h) fun m _ => ?_
  exact PT.imp (pt_cmpR (cmpP hu ho) ha hb (bh_set hs)) fun _ _ _ h => prm_two (tT_val h)
theorem cmp2_ok {X : Cx} {sc : Scope} (S : Sx X N Γ C k sc) {a b c : Expr} {pa pb pc : Ex} {op op' : CmpOp} {o o' : Pr} {pos : Pos} (ho : cCmp op = some o) (ho' : cCmp op' = some o') (hs : notSet c = true) (ha : PE X a (tO X.K B C pa)) (hb : PE X b (tO X.K B C pb)) (hc : PE X c (tO X.K B C pc)) : EOk X B C (.Compare a [op, op'] [b, c] pos) (.chain o o' pa pb pc) := by
  have hu : X.A.units + 65 < cLine := Nat.lt_of_le_of_lt (by omega) S.hu
  refine EOk.of (fun _ z => by cases z) (PE.imp (pe_chain (cmpP hu ho) (cmpP hu ho') ha hb hc (lm_set hs)) fun _ _ _ h => chain_imp h) fun m _ => ?_
  exact PT.imp (pt_chain (cmpP hu ho) (cmpP hu ho') ha hb hc (lm_set hs)) fun _ _ _ h => chain_imp (tT_val h)
theorem bits_ok {X : Cx} {o : Expr} {po : Ex} {apos pos : Pos} (hc : notCall o = true) (hl : (apos.endLine == pos.line) = true) (h : PE X o (tO X.K B C po)) : PE X (.Call (.Attribute o "bit_length" apos) [] [] pos) (tE X.K B C (.prm .mbits [po])) := by
  refine PE.imp (pe_bits h (attr_call hc) hl) fun σ H Q h => ?_
  obtain ⟨F, env, r, o, e1, h1, q1⟩ := prm_one h
  refine ⟨F, env, r, o, e1, h1, fun v F1 H1 s1 k1 => ?_⟩
  obtain ⟨σ', F2, env2, a, d, r2, hb, hp, q⟩ := rP1_in (q1 v F1 H1 s1 k1)
  have hp : qBits a = some d := hp
  cases a with
  | int i =>
    cases hp
    exact ⟨i, hb.int, fin0 r2 q (.int _)⟩
  | _ => cases hp
theorem tTs_one {K : PySem.W.Frag} {p : Ex} {σ : L2.St} {H : Hp} {Q : Bool → Hp → Prop} (h : tTs K B C [p] σ H Q) : tT K B C p σ H Q := by
  obtain ⟨F, env, r, b, env', e, q⟩ := h
  rw [evT] at e
  obtain ⟨⟨d, e1⟩, h1, e⟩ := Option.bind_eq_some_iff.mp e
  obtain ⟨t, h2, e⟩ := Option.bind_eq_some_iff.mp e
  have := isTrueD_in h2
  simp only at this
  subst this
  cases t with
  | true =>
    rw [if_pos rfl, evT] at e
    cases e
    exact ⟨F, env, r, _, _, h1, q⟩
  | false =>
    rw [if_neg (by decide)] at e
    cases e
    exact ⟨F, env, r, _, _, h1, q⟩
theorem tTs_nil {K : PySem.W.Frag} {σ : L2.St} {H : Hp} {Q : Bool → Hp → Prop} (h : tTs K B C [] σ H Q) : tYes σ H Q := by
  obtain ⟨F, env, r, b, env', e, q⟩ := h
  rw [evT] at e
  cases e
  exact q F H (Stp.refl r)
theorem cL_one {sc : Scope} {e : Expr} {ps : List Ex} (h : cL Γ N n sc [e] = some ps) : ∃ m p, n = m + 1 ∧ ps = [p] ∧ cE Γ N m sc e = some p := by
  cases n with
  | zero => cases h
  | succ m =>
    simp only [cL] at h
    split at h
    · obtain ⟨p, g1, g⟩ := Option.bind_eq_some_iff.mp h
      obtain ⟨qs, g2, rfl⟩ := Option.map_eq_some_iff.mp g
      cases m with
      | zero => cases g1
      | succ j =>
        simp only [cL] at g2
        cases g2
        exact ⟨j + 1, p, rfl, rfl, g1⟩
    · cases h
theorem comp_ok (A : ∀ m, m ≤ n → At N Γ C k B m) {X : Cx} {sc : Scope} (S : Sx X N Γ C k sc) {elt tg iter : Expr} {ifs : List Expr} {scope : Scope} {pos : Pos} {own : List (Str × Nat)} {its qs : List Ex} {t : Tg} {pe : Ex}
    (hb : blkB N sc scope own = true) (hs : notSet iter = true) (ht : ifs.all (tstB n) = true) (hl : ifs.length ≤ 1)
    (h1 : cL Γ N n sc (cIK Γ sc tg iter).2 = some its) (h2 : cTg N scope n tg = some t) (h3 : cL Γ N n (relS scope sc) ifs = some qs) (h4 : cE Γ N n (relS scope sc) elt = some pe) (h5 : tgIn (own.map (·.2)) t = true) :
    PE X (.ListComp elt [⟨tg, iter, ifs, 0⟩] scope pos) (tE X.K B C (.comp (own.map (·.2)) t (cIK Γ sc tg iter).1 its qs pe)) := by
  obtain ⟨a1, a2⟩ := (A n (Nat.le_refl _)).l sc _ its h1 X S
  have hi : PI X tg iter (tI X.K B C (cIK Γ sc tg iter).1 its) := pi_all S a2 a1 fun e => by
    rw [e] at h1
    obtain ⟨m, p, rfl, rfl, g⟩ := cL_one h1
    exact ⟨p, rfl, ((A m (Nat.le_succ _)).e sc iter p g X S).1⟩
  have hok : BlkOk X.N X.env.scope scope own := by rw [S.hN, S.hsc]; exact blk_of hb
  refine PE.imp (pe_lc (tt := tTs X.K B C qs) S.calm (by rw [S.hN]; exact S.nd) hi hok (fun s H D cl fp => (tg_ok (S.blk s H scope D cl fp) (blk_sto S s H D cl fp) n).1 tg t h2) (fun s H D cl fp => ?_) (fun s H D cl fp => ((A n (Nat.le_refl _)).e _ elt pe h4 _ (S.blk s H scope D cl fp)).1) (fs_set hs)) fun _ _ _ h => lc_imp h5 h
  match ifs, hl, ht, h3 with
  | [], _, _, h3 =>
    have : qs = [] := by
      cases n with
      | zero => cases h2
      | succ m => simp only [cL] at h3; cases h3; rfl
    subst this
    exact ⟨fun pins s σ H Q I hw => pts_nil.run pins s σ H Q I (tTs_nil hw)⟩
  | [c], _, ht, h3 =>
    obtain ⟨m, p, e, rfl, g⟩ := cL_one h3
    have ht : tstB n c = true := by simpa using ht
    have hc := ((A m (by omega)).e _ c p g _ (S.blk s H scope D cl fp)).2.2 n ht
    exact ⟨fun pins s σ H Q I hw => (pts_one hc).run pins s σ H Q I (tTs_one hw)⟩
end
end PD

/-! PD18: the expressions: every one. -/
namespace PD
open PySem PySem.Spec PyProof.Rows L2
section
variable {N : List Str} {Γ : Gm} {C : Nat → List D → Option (D × List D)} {k : Nat} {B : Bs} {n : Nat}
theorem call1_ok (A : ∀ m, m ≤ n → At N Γ C k B m) {X : Cx} {sc : Scope} (S : Sx X N Γ C k sc) {f : Str} {p pos : Pos} {a : Expr} {q : Ex} (hb : bltOk Γ sc f = true)
    (h : ((cB1 f).bind fun o => (cE Γ N n sc a).map fun pa => Ex.prm o [pa]) = some q) : EOk X B C (.Call (.Name f p) [a] [] pos) q := by
  obtain ⟨o, h1, h⟩ := Option.bind_eq_some_iff.mp h
  obtain ⟨pa, h2, rfl⟩ := Option.map_eq_some_iff.mp h
  have b := b1_ok (p := p) (pos := pos) S hb h1 ((A n (Nat.le_refl _)).e sc a pa h2 X S).2.1 (cE_ns h2)
  exact EOk.of (fun _ z => by cases z) b fun m _ => pt_plain b fun _ => rfl
theorem call_all (A : ∀ m, m ≤ n → At N Γ C k B m) {X : Cx} {sc : Scope} (S : Sx X N Γ C k sc) {f : Str} {p pos : Pos} {es : List Expr} {q : Ex} (h : cE Γ N (n + 1) sc (.Call (.Name f p) es [] pos) = some q) : EOk X B C (.Call (.Name f p) es [] pos) q := by
  have A0 := A n (Nat.le_refl _)
  simp only [cE] at h
  split at h
  · cases h
  rename_i hgo
  have hg : glB sc f = true := by
    cases e : glB sc f
    · rw [e] at hgo; exact absurd rfl hgo
    · rfl
  have ho : oddName f = false := by
    cases e : oddName f
    · rfl
    · rw [hg, e] at hgo; exact absurd rfl hgo
  clear hgo
  cases hd : Γ.defs.lookup f with
  | some w =>
    obtain ⟨i, ps, m⟩ := w
    rw [hd] at h
    simp only at h
    split at h
    · cases m with
      | false =>
        rw [if_neg (by decide)] at h
        obtain ⟨qs, h1, rfl⟩ := Option.map_eq_some_iff.mp h
        obtain ⟨g1, g2⟩ := A0.l sc es qs h1 X S
        have b := call_ok (p := p) (pos := pos) S hg ho hd g2 g1 fun e => by
          subst e
          have := eval_len h1
          exact List.eq_nil_of_length_eq_zero this
        exact EOk.of (fun _ z => by cases z) b fun m _ => pt_plain b fun _ => rfl
      | true =>
        rw [if_pos rfl] at h
        match es, h with
        | .Name g pg :: r, h =>
          obtain ⟨pv, h1, h⟩ := Option.bind_eq_some_iff.mp h
          cases pv with
          | var j =>
            obtain ⟨qs, h2, rfl⟩ := Option.map_eq_some_iff.mp h
            obtain ⟨g1, g2⟩ := A0.l sc r qs h2 X S
            have b := callg_ok (p := p) (pos := pos) (pg := pg) S hg ho hd g2 g1 h1
            exact EOk.of (fun _ z => by cases z) b fun m _ => pt_plain b fun _ => rfl
          | _ => cases h
    · cases h
  | none =>
    rw [hd] at h
    simp only at h
    split at h
    · rename_i hc
      have hb : bltOk Γ sc f = true := by unfold bltOk; rw [hg, hc, ho]; rfl
      match es, h with
      | [a], h =>
        cases a with
        | Call fn as ks cp =>
          cases fn with
          | Name r rp =>
            match as, ks, h with
            | [b], [], h =>
              simp only at h
              split at h
              · rename_i hr
                obtain ⟨pb, h1, hq⟩ := Option.map_eq_some_iff.mp h
                obtain ⟨e1, e2, e3⟩ := hr
                subst e1 e2 hq
                have b' := lrange_ok (p := p) (pos := pos) (p2 := rp) (pos2 := cp) S hb e3 (A0.e sc b pb h1 X S).2.1 (cE_ns h1)
                exact EOk.of (fun _ z => by cases z) b' fun m _ => pt_plain b' fun _ => rfl
              · exact call1_ok A S hb h
            | [], _, h => exact call1_ok A S hb h
            | _ :: _ :: _, _, h => exact call1_ok A S hb h
            | [b], _ :: _, h => exact call1_ok A S hb h
          | _ => exact call1_ok A S hb h
        | _ => exact call1_ok A S hb h
      | [a, b], h =>
        simp only at h
        split at h
        · rename_i e
          subst e
          cases b with
          | Name t tp =>
            simp only at h
            split at h
            · rename_i ht
              obtain ⟨T, h1, h⟩ := Option.bind_eq_some_iff.mp h
              obtain ⟨pa, h2, rfl⟩ := Option.map_eq_some_iff.mp h
              have b' := isi_ok (p := p) (pos := pos) (tp := tp) S hb ht h1 (A0.e sc a pa h2 X S).2.1 (cE_ns h2)
              exact EOk.of (fun _ z => by cases z) b' fun m _ => pt_plain b' fun _ => rfl
            · cases h
          | _ => cases h
        · obtain ⟨o, h1, h⟩ := Option.bind_eq_some_iff.mp h
          obtain ⟨pa, h2, h⟩ := Option.bind_eq_some_iff.mp h
          obtain ⟨pb, h3, rfl⟩ := Option.map_eq_some_iff.mp h
          have b' := b2_ok (p := p) (pos := pos) S hb h1 (A0.e sc a pa h2 X S).2.1 (A0.e sc b pb h3 X S).2.1 (cE_ns h2) (cE_ns h3)
          exact EOk.of (fun _ z => by cases z) b' fun m _ => pt_plain b' fun _ => rfl
      | [], h => cases h
      | _ :: _ :: _ :: _, h => cases h
    · cases h
theorem pk_ok {X : Cx} {sc : Scope} (S : Sx X N Γ C k sc) : ∀ {n : Nat} {kws : List Keyword} {qs : List Ex}, (∀ m, m ≤ n → At N Γ C k B m) → cL Γ N n sc (kws.map (·.value)) = some qs → PK X kws (tL X.K B C qs)
  | 0, _, _, _, h => by cases h
  | n + 1, [], qs, _, h => by
    rw [List.map_nil, cL] at h
    cases h
    exact ⟨fun pos pins s σ H Q I q => pk_nil.run pos pins s σ H Q I (tL_nil q)⟩
  | n + 1, ⟨nm, e, kp⟩ :: r, qs, A, h => by
    rw [List.map_cons, cL] at h
    split at h
    · obtain ⟨p, h1, h⟩ := Option.bind_eq_some_iff.mp h
      obtain ⟨qr, h2, rfl⟩ := Option.map_eq_some_iff.mp h
      have b := pk_cons (nm := nm) (kpos := kp) ((A n (Nat.le_succ n)).e sc e p h1 X S).1 (pk_ok S (fun m hm => A m (Nat.le_succ_of_le hm)) h2)
      exact ⟨fun pos pins s σ H Q I q => b.run pos pins s σ H Q I (tL_cons q)⟩
    · cases h
theorem at_e (A : ∀ m, m ≤ n → At N Γ C k B m) : ∀ sc e p, cE Γ N (n + 1) sc e = some p → ∀ X : Cx, Sx X N Γ C k sc → EOk X B C e p := fun sc e p h X S => by
  have A0 := A n (Nat.le_refl _)
  cases e with
  | Constant c j pos =>
    cases c with
    | int i =>
      simp only [cE] at h; cases h
      have b := pe_conE (C := C) (B := B) (d := .int i) (pe_int (X := X) (j := j) (pos := pos)) (.int _)
      exact EOk.of (fun _ z => by cases z) b fun m _ => pt_plain b fun _ => rfl
    | bool i =>
      simp only [cE] at h; cases h
      have b := pe_conE (C := C) (B := B) (d := .bool i) (pe_bl (X := X) (j := j) (pos := pos)) (.bl _)
      exact EOk.of (fun _ z => by cases z) b fun m _ => pt_plain b fun _ => rfl
    | str i =>
      simp only [cE] at h; cases h
      have b := pe_conE (C := C) (B := B) (d := .str i) (pe_str (X := X) (j := j) (pos := pos)) (.str _)
      exact EOk.of (fun _ z => by cases z) b fun m _ => pt_plain b fun _ => rfl
    | none =>
      simp only [cE] at h; cases h
      have b := pe_conE (C := C) (B := B) (d := .none) (pe_non (X := X) (j := j) (pos := pos)) .non
      exact EOk.of (fun _ z => by cases z) b fun m _ => pt_plain b fun _ => rfl
    | _ => simp [cE] at h
  | Name x pos =>
    simp only [cE] at h
    obtain ⟨h1, h2⟩ := name_ok (pos := pos) (B := B) S h
    exact ⟨h1, h2, fun m _ => pt_plain h1 fun _ => rfl⟩
  | Tuple es j pos =>
    simp only [cE] at h
    split at h
    · rename_i hl
      obtain ⟨ps, h1, rfl⟩ := Option.map_eq_some_iff.mp h
      exact EOk.of (fun _ z => by cases z) (tup_ok (of_decide_eq_true hl) (eval_len h1) (A0.l sc es ps h1 X S).1) fun m hm => by cases m <;> cases hm
    · cases h
  | List es pos =>
    simp only [cE] at h
    split at h
    · rename_i hl
      obtain ⟨ps, h1, rfl⟩ := Option.map_eq_some_iff.mp h
      exact EOk.of (fun _ z => by cases z) (lst_ok (of_decide_eq_true hl) (eval_len h1) (A0.l sc es ps h1 X S).1) fun m hm => by cases m <;> cases hm
    · cases h
  | BinOp a op b pos =>
    simp only [cE] at h
    obtain ⟨o, h1, h⟩ := Option.bind_eq_some_iff.mp h
    obtain ⟨pa, h2, h⟩ := Option.bind_eq_some_iff.mp h
    obtain ⟨pb, h3, rfl⟩ := Option.map_eq_some_iff.mp h
    exact EOk.of (fun _ z => by cases z) (PE.imp (pe_op (binP h1) (A0.e sc a pa h2 X S).2.1 (A0.e sc b pb h3 X S).2.1) fun _ _ _ h => prm_two h) fun m hm => by cases m <;> cases hm
  | UnaryOp op a pos =>
    cases op with
    | USub =>
      simp only [cE] at h
      obtain ⟨pa, h2, rfl⟩ := Option.map_eq_some_iff.mp h
      exact EOk.of (fun _ z => by cases z) (PE.imp (pe_un un_negP (A0.e sc a pa h2 X S).2.1) fun _ _ _ h => prm_one h) fun m hm => by cases m <;> cases hm
    | Not =>
      simp only [cE] at h
      split at h
      · rename_i ht
        obtain ⟨pa, h2, rfl⟩ := Option.map_eq_some_iff.mp h
        obtain ⟨g1, g2, g3⟩ := A0.e sc a pa h2 X S
        exact EOk.of (fun _ z => by cases z) (PE.imp (pe_not g1) fun _ _ _ h => not_imp h) fun m _ => PT.imp (pt_not (g3 n ht)) fun _ _ _ h => not_impT h
      · cases h
    | _ => simp [cE] at h
  | Compare a ops bs pos =>
    match ops, bs, h with
    | [op], [b], h =>
      simp only [cE] at h
      split at h
      · rename_i hs
        obtain ⟨o, h1, h⟩ := Option.bind_eq_some_iff.mp h
        obtain ⟨pa, h2, h⟩ := Option.bind_eq_some_iff.mp h
        obtain ⟨pb, h3, rfl⟩ := Option.map_eq_some_iff.mp h
        exact cmp1_ok S h1 hs (A0.e sc a pa h2 X S).2.1 (A0.e sc b pb h3 X S).2.1
      · cases h
    | [op, op'], [b, c], h =>
      simp only [cE] at h
      split at h
      · rename_i hs
        rw [Bool.and_eq_true] at hs
        obtain ⟨o, h1, h⟩ := Option.bind_eq_some_iff.mp h
        obtain ⟨o', h1', h⟩ := Option.bind_eq_some_iff.mp h
        obtain ⟨pa, h2, h⟩ := Option.bind_eq_some_iff.mp h
        obtain ⟨pb, h3, h⟩ := Option.bind_eq_some_iff.mp h
        obtain ⟨pc, h4, rfl⟩ := Option.map_eq_some_iff.mp h
        exact cmp2_ok S h1 h1' hs.2 (A0.e sc a pa h2 X S).2.1 (A0.e sc b pb h3 X S).2.1 (A0.e sc c pc h4 X S).2.1
      · cases h
    | [], _, h => simp [cE] at h
    | [_], [], h => simp [cE] at h
    | [_], _ :: _ :: _, h => simp [cE] at h
    | [_, _], [], h => simp [cE] at h
    | [_, _], [_], h => simp [cE] at h
    | [_, _], _ :: _ :: _ :: _, h => simp [cE] at h
    | _ :: _ :: _ :: _, _, h => simp [cE] at h
  | BoolOp op es pos =>
    cases op with
    | And =>
      simp only [cE] at h
      split at h
      · rename_i hl
        obtain ⟨g1, g2⟩ := A0.and sc es p h X pos S
        exact EOk.of (and_nv h hl) g1 fun m hm => by
          cases m with
          | zero => cases hm
          | succ m => exact (g2 m hm).pt
      · cases h
    | Or =>
      simp only [cE] at h
      split at h
      · rename_i hl
        obtain ⟨g1, g2⟩ := A0.or sc es p h X pos S
        exact EOk.of (or_nv h hl) g1 fun m hm => by
          cases m with
          | zero => cases hm
          | succ m => exact (g2 m hm).pt
      · cases h
  | IfExp c a b pos =>
    simp only [cE] at h
    split at h
    · cases h
    · rename_i hc
      have hc : tstB n c = true := by simpa using hc
      obtain ⟨pc, h1, h⟩ := Option.bind_eq_some_iff.mp h
      obtain ⟨pa, h2, h⟩ := Option.bind_eq_some_iff.mp h
      obtain ⟨pb, h3, rfl⟩ := Option.map_eq_some_iff.mp h
      exact EOk.of (fun _ z => by cases z) (PE.imp (pe_ifExp ((A0.e sc c pc h1 X S).2.2 n hc) (A0.e sc a pa h2 X S).1 (A0.e sc b pb h3 X S).1) fun _ _ _ h => ite_imp h) fun m hm => by cases m <;> cases hm
  | Subscript a b pos =>
    have gen : notSlice b = true → (cE Γ N n sc a).bind (fun pa => (cE Γ N n sc b).map fun pb => Ex.prm .ix [pa, pb]) = some p → EOk X B C (.Subscript a b pos) p := fun hs h => by
      obtain ⟨pa, h2, h⟩ := Option.bind_eq_some_iff.mp h
      obtain ⟨pb, h3, rfl⟩ := Option.map_eq_some_iff.mp h
      have g := ix_in (pos := pos) hs (A0.e sc a pa h2 X S).2.1 (A0.e sc b pb h3 X S).2.1
      exact EOk.of (fun _ z => by cases z) g fun m _ => pt_plain g fun _ => rfl
    cases b with
    | Slice lo hi st sp =>
      cases st with
      | some s => simp [cE, notSlice] at h
      | none =>
        simp only [cE] at h
        obtain ⟨pa, h2, h⟩ := Option.bind_eq_some_iff.mp h
        have ga := (A0.e sc a pa h2 X S).2.1
        cases lo with
        | none =>
          cases hi with
          | none =>
            cases h
            have g := sl0_ok (p2 := sp) (pos := pos) ga
            exact EOk.of (fun _ z => by cases z) g fun m _ => pt_plain g fun _ => rfl
          | some u =>
            obtain ⟨pu, h3, rfl⟩ := Option.map_eq_some_iff.mp h
            have g := sl2_ok (p2 := sp) (pos := pos) ga (A0.e sc u pu h3 X S).2.1
            exact EOk.of (fun _ z => by cases z) g fun m _ => pt_plain g fun _ => rfl
        | some l =>
          cases hi with
          | none =>
            obtain ⟨pl, h3, rfl⟩ := Option.map_eq_some_iff.mp h
            have g := sl1_ok (p2 := sp) (pos := pos) ga (A0.e sc l pl h3 X S).2.1
            exact EOk.of (fun _ z => by cases z) g fun m _ => pt_plain g fun _ => rfl
          | some u =>
            obtain ⟨pl, h3, h⟩ := Option.bind_eq_some_iff.mp h
            obtain ⟨pu, h4, rfl⟩ := Option.map_eq_some_iff.mp h
            have g := sl3_ok (p2 := sp) (pos := pos) ga (A0.e sc l pl h3 X S).2.1 (A0.e sc u pu h4 X S).2.1
            exact EOk.of (fun _ z => by cases z) g fun m _ => pt_plain g fun _ => rfl
    | _ => exact gen rfl (by simpa only [cE, notSlice, if_true, ite_true] using h)
  | Call fn es ks pos =>
    cases fn with
    | Name f fp =>
      cases ks with
      | nil => exact call_all A S h
      | cons kw ks =>
        cases es with
        | cons e es => simp [cE] at h
        | nil =>
          simp only [cE] at h
          split at h
          · cases h
          · rename_i hg
            simp only [Bool.or_eq_true, not_or, Bool.not_eq_true', Bool.not_eq_false, Bool.not_eq_true] at hg
            obtain ⟨⟨hg, ho⟩, ha⟩ := hg
            split at h
            · rename_i i ps hd
              split at h
              · rename_i perm hp
                split at h
                · cases h
                · rename_i hne
                  obtain ⟨qs, h1, rfl⟩ := Option.map_eq_some_iff.mp h
                  have hlen : (List.filterMap (fun x : Keyword => x.arg) (kw :: ks)).length = (kw :: ks).length := by
                    have : ∀ l : List Keyword, l.all (·.arg.isSome) = true → (l.filterMap (·.arg)).length = l.length := by
                      intro l
                      induction l with
                      | nil => intro _; rfl
                      | cons a l ih =>
                        intro hl
                        rw [List.all_cons, Bool.and_eq_true] at hl
                        cases e : a.arg with
                        | none => rw [e] at hl; cases hl.1
                        | some z => rw [List.filterMap_cons_some e, List.length_cons, List.length_cons, ih hl.2]
                    exact this _ ha
                  have b := callk_ok (p := fp) (pos := pos) S hg ho hd (kwFind_mem hp) (fun z => hne (by rw [z]; rfl)) ha rfl (by rw [eval_len h1, List.length_map, hlen]) (pk_ok S A h1)
                  exact EOk.of (fun _ z => by cases z) b fun m _ => pt_plain b fun _ => rfl
              · cases h
            · cases h
    | Attribute o m apos =>
      match es, ks, h with
      | [], [], h =>
        simp only [cE] at h
        split at h
        · rename_i hc
          obtain ⟨po, h3, hq⟩ := Option.map_eq_some_iff.mp h
          simp only [Bool.and_eq_true, decide_eq_true_eq] at hc
          obtain ⟨⟨h1, h2⟩, hm⟩ := hc
          subst hm hq
          have g := bits_ok h1 h2 (A0.e sc o po h3 X S).2.1
          exact EOk.of (fun _ z => by cases z) g fun m _ => pt_plain g fun _ => rfl
        · cases h
      | _ :: _, _, h => simp [cE] at h
      | [], _ :: _, h => simp [cE] at h
    | _ => simp [cE] at h
  | ListComp elt gens scope pos =>
    match gens, h with
    | [], h => simp [cE] at h
    | _ :: _ :: _, h => simp [cE] at h
    | [⟨tg, iter, ifs, ia⟩], h =>
      by_cases ha : ia = 0
      · subst ha
        simp only [cE] at h
        obtain ⟨own, h1, h⟩ := Option.bind_eq_some_iff.mp h
        split at h
        · rename_i hc
          simp only [Bool.and_eq_true, decide_eq_true_eq] at hc
          obtain ⟨⟨⟨c1, c2⟩, c3⟩, c4⟩ := hc
          obtain ⟨its, h2, h⟩ := Option.bind_eq_some_iff.mp h
          obtain ⟨t, h3, h⟩ := Option.bind_eq_some_iff.mp h
          obtain ⟨qs, h4, h⟩ := Option.bind_eq_some_iff.mp h
          obtain ⟨pe, h5, h⟩ := Option.bind_eq_some_iff.mp h
          split at h
          · rename_i h6
            cases h
            exact EOk.of (fun _ z => by cases z) (comp_ok A S c1 c2 c3 c4 h2 h3 h4 h5 h6) fun m hm => by cases m <;> cases hm
          · cases h
        · cases h
      · simp [cE, ha] at h
  | _ => simp [cE] at h
theorem at_all : ∀ n m, m ≤ n → At N Γ C k B m
  | 0, m, h => by
    have : m = 0 := by omega
    subst this
    exact at0
  | n + 1, m, h => by
    have ih := at_all n
    by_cases e : m ≤ n
    · exact ih m e
    · have : m = n + 1 := by omega
      subst this
      exact ⟨at_e ih, at_l (ih n (Nat.le_refl _)), at_and (ih n (Nat.le_refl _)), at_or (ih n (Nat.le_refl _))⟩
/-- every expression that compiles does what it says -/
theorem ex_ok {n : Nat} {sc : Scope} {e : Expr} {p : Ex} (h : cE Γ N n sc e = some p) {X : Cx} (S : Sx X N Γ C k sc) : EOk X B C e p := (at_all n n (Nat.le_refl _)).e sc e p h X S
theorem exs_ok {n : Nat} {sc : Scope} {es : List Expr} {ps : List Ex} (h : cL Γ N n sc es = some ps) {X : Cx} (S : Sx X N Γ C k sc) : PA X es (tL X.K B C ps) ∧ es.all notStar = true := (at_all n n (Nat.le_refl _)).l sc es ps h X S
end
end PD

/-! PD19: statements of the small language, and what they do. -/
namespace PD
open PySem PySem.Spec PyProof.Rows L2

inductive Md where
  | plain | cut | call
  deriving DecidableEq
inductive Sm where
  | asg (m : Md) (t : Tg) (e : Ex)
  | own (i : Nat) (es : List Ex)
  | ownc (i : Nat) (e : Ex)
  | par (is : List Nat) (es : List (Md × Ex))
  | setix (i : Nat) (ix e : Ex)
  | app (i : Nat) (e : Ex)
  | spoil (p : Ex) (x : Str)
  | ex (e : Ex)
  | ret (m : Md) (e : Ex)
  | retN
  | ite (c : Ex) (a b : List Sm)
  | for (m : Md) (tg : Tg) (ik : IK) (its : List Ex) (body : List Sm)
  | while (c : Ex) (body : List Sm)
  | pass | brk | cont | bad

mutual
/-- no list within -/
def lf : D → Bool
  | .list _ => false
  | .dict _ => false
  | .tuple ds => lfs ds
  | _ => true
def lfs : List D → Bool
  | [] => true
  | d :: r => lf d && lfs r
end
/-- flags: (new, the slot, its value), or (of the entry, ..) -/
abbrev Fl := List (Bool × Nat × D)
def lfSlot : Slot → Slot
  | .val d => if lf d then .val d else .no
  | _ => .no
def setAll (b : Bool) (env : En) : Fl → En
  | [] => env
  | p :: r => if p.1 = b then (setAll b env r).set p.2.1 (.val p.2.2) else setAll b env r
/-- what is new alone -/
def cutE (env : En) (fl : Fl) : En := setAll true (env.map lfSlot) fl
def kpSlot : Slot → Slot
  | .val d => if lf d then .val d else .no
  | .own ds => if lfs ds then .own ds else .no
  | .brw ds => if lfs ds then .brw ds else .no
  | .no => .no
/-- what stays when a new list was written -/
def rebE (env : En) (fl : Fl) : En := setAll false (env.map kpSlot) fl
def oldF (fl : Fl) : Fl := fl.filter fun p => !p.1
def tgF (b : Bool) : Tg → D → Fl
  | .nm i, d => if b then [(true, i, d)] else []
  | _, _ => []
mutual
def tgN : Tg → List Nat
  | .nm i => [i]
  | .tp ts => tgsN ts
def tgsN : List Tg → List Nat
  | [] => []
  | t :: r => tgN t ++ tgsN r
end
def rmF (l : List Nat) (fl : Fl) : Fl := fl.filter fun p => !l.contains p.2.1
def updF (tr b : Bool) (t : Tg) (d : D) (fl : Fl) : Fl := if tr then tgF b t d ++ rmF (tgN t) fl else fl

inductive Fw where
  | nx (env : En) (fl : Fl) | bk (env : En) (fl : Fl) | ct (env : En) (fl : Fl) | rt (d : D) (b : Bool) (env : En)

def forL (f : D → En → Fl → Option Fw) : List D → En → Fl → Option Fw
  | [], env, fl => some (.nx env fl)
  | x :: r, env, fl => (f x env fl).bind fun w => match w with
    | .nx e l => forL f r e l
    | .ct e l => forL f r e l
    | .bk e l => some (.nx e l)
    | .rt d b e => some (.rt d b e)
def whileL (c : En → Option (Bool × En)) (f : En → Fl → Option Fw) : Nat → En → Fl → Option Fw
  | 0, _, _ => none
  | n + 1, env, fl => (c env).bind fun x => if x.1 then (f x.2 fl).bind fun w => match w with
    | .nx e l => whileL c f n e l
    | .ct e l => whileL c f n e l
    | .bk e l => some (.nx e l)
    | .rt d b e => some (.rt d b e)
    else some (.nx x.2 fl)
def setVals : List Nat → List (D × Bool) → En → Option En
  | [], [], env => some env
  | i :: is, d :: ds, env => if isBrw (slot env i) then none else if i < env.length then setVals is ds (env.set i (.val d.1)) else none
  | _, _, _ => none
def parF (tr : Bool) : List Nat → List (D × Bool) → Fl → Fl
  | i :: is, d :: ds, fl => parF tr is ds (updF tr d.2 (.nm i) d.1 fl)
  | _, _, fl => fl

section
variable (C : Nat → List D → Option (D × List D)) (Z : Nat → List D → Bool) (W : Nat) (tr : Bool)
def evF (m : Md) (p : Ex) (env : En) (fl : Fl) : Option (D × Bool × En) :=
  match m with
  | .plain => (ev C p env).map fun r => (r.1, tr && lf r.1, r.2)
  | .cut => (ev C p (cutE env fl)).map fun r => (r.1, true, env)
  | .call => match p with
    | .call f _ es => (evL C es env).bind fun q => (C f q.1).map fun r => (r.1, tr && (Z f q.1 || lfs q.1 || lf r.1), q.2)
    | _ => none
def evFL : List (Md × Ex) → En → Fl → Option (List (D × Bool) × En)
  | [], env, _ => some ([], env)
  | (m, e) :: r, env, fl => (evF C Z tr m e env fl).bind fun x => (evFL r x.2.2 fl).map fun y => ((x.1, x.2.1) :: y.1, y.2)
def evI (m : Md) (its : List Ex) (env : En) (fl : Fl) : Option (List D × Bool × En) :=
  match m, its with
  | .plain, _ => (evL C its env).map fun p => (p.1, false, p.2)
  | m, [p] => (evF C Z tr m p env fl).map fun q => ([q.1], q.2.1, q.2.2)
  | _, _ => none
def evC (c : Ex) (env : En) : Option (Bool × En) := (ev C c env).bind fun x => (isTrueD x.1).map fun t => (t, x.2)
mutual
def exS : Sm → En → Fl → Option Fw
  | .asg m t e, env, fl => (evF C Z tr m e env fl).bind fun x => (asg t x.1 x.2.2).map fun e2 => .nx e2 (updF tr x.2.1 t x.1 fl)
  | .own i es, env, fl => (evL C es env).bind fun x => if isBrw (slot x.2 i) then none else if i < x.2.length then some (.nx (x.2.set i (.own x.1)) (rmF [i] fl)) else none
  | .ownc i e, env, fl => match e with
    | .call f _ es => (evL C es env).bind fun q => (C f q.1).bind fun r => match r.1 with
      | .list ds => if (Z f q.1 || lfs q.1) && lfs ds && !isBrw (slot q.2 i) && decide (i < q.2.length) then some (.nx (q.2.set i (.own ds)) (rmF [i] fl)) else none
      | _ => none
    | _ => none
  | .par is es, env, fl => (evFL C Z tr es env fl).bind fun x => (setVals is x.1 x.2).map fun e => .nx e (parF tr is x.1 fl)
  | .setix i ix e, env, fl => (ev C e env).bind fun x => if isMut (slot x.2 i) then (ev C ix x.2).bind fun k => match slot k.2 i, k.1 with
    | .own ds, .int j => (ixAt ds.length j).map fun n => .nx (k.2.set i (.own (ds.set n x.1))) fl
    | .brw ds, .int j => (ixAt ds.length j).map fun n => .nx (k.2.set i (.brw (ds.set n x.1))) fl
    | _, _ => none
    else none
  | .app i e, env, fl => if isMut (slot env i) then (ev C e env).bind fun x => match slot x.2 i with
    | .own ds => if sz ds.length then some (.nx (x.2.set i (.own (ds ++ [x.1]))) fl) else none
    | .brw ds => if sz ds.length then some (.nx (x.2.set i (.brw (ds ++ [x.1]))) fl) else none
    | _ => none
    else none
  | .spoil p x, env, fl => if tr then (ev C p (cutE env fl)).bind fun r => match r.1 with
    | .list ds => if sz ds.length then some (.nx (rebE env fl) (oldF fl)) else none
    | _ => none
    else none
  | .ex e, env, fl => (ev C e env).map fun x => .nx x.2 fl
  | .ret m e, env, fl => (evF C Z tr m e env fl).map fun x => .rt x.1 x.2.1 x.2.2
  | .retN, env, _ => some (.rt .none tr env)
  | .ite c a b, env, fl => (evC C c env).bind fun x => if x.1 then exB a x.2 fl else exB b x.2 fl
  | .for m tg ik its body, env, fl => (evI C Z tr m its env fl).bind fun p => (items ik p.1).bind fun xs =>
      forL (fun x e l => (asg tg x e).bind fun e1 => exB body e1 (updF tr (p.2.1 && decide (ik = .seq)) tg x l)) xs p.2.2 fl
  | .while c body, env, fl => whileL (evC C c) (fun e l => exB body e l) W env fl
  | .pass, env, fl => some (.nx env fl)
  | .brk, env, fl => some (.bk env fl)
  | .cont, env, fl => some (.ct env fl)
  | .bad, _, _ => none
def exB : List Sm → En → Fl → Option Fw
  | [], env, fl => some (.nx env fl)
  | s :: r, env, fl => (exS s env fl).bind fun w => match w with
    | .nx e l => exB r e l
    | .bk e l => some (.bk e l)
    | .ct e l => some (.ct e l)
    | .rt d b e => some (.rt d b e)
end
end
mutual
/-- nothing new is written within -/
def noSp : Sm → Bool
  | .spoil _ _ => false
  | .ite _ a b => noSpB a && noSpB b
  | .for _ _ _ _ b => noSpB b
  | .while _ b => noSpB b
  | _ => true
def noSpB : List Sm → Bool
  | [] => true
  | s :: r => noSp s && noSpB r
end
/-- a def: its parameters' number, its slots' number, whether it changes its first argument, whether what is new is told, its body -/
structure Fd where
  np : Nat
  ns : Nat
  m : Bool
  tr : Bool
  body : List Sm
def pars (m : Bool) : List D → Option En
  | [] => if m then none else some []
  | d :: r => if m then (match d with
      | .list gs => some (.brw gs :: r.map .val)
      | _ => none) else some ((d :: r).map .val)
def oldOf : List D → Nat → Fl
  | [], _ => []
  | d :: r, i => (false, i, d) :: oldOf r (i + 1)
def outG (m : Bool) (env : En) : Option (List D) := if m then (match slot env 0 with
  | .brw gs => some gs
  | _ => none) else some []
def endOf (m tr : Bool) : Fw → Option (D × List D × Bool)
  | .rt d b e => (outG m e).map fun g => (d, g, b)
  | .nx e _ => (outG m e).map fun g => (.none, g, tr)
  | _ => none
def bodyRun (C : Nat → List D → Option (D × List D)) (Z : Nat → List D → Bool) (W : Nat) (fd : Fd) (ds : List D) : Option (D × List D × Bool) :=
  if ds.length = fd.np then (pars fd.m ds).bind fun ps => (exB C Z W fd.tr fd.body (ps ++ List.replicate (fd.ns - fd.np) .no) (if fd.tr then oldOf ds 0 else [])).bind (endOf fd.m fd.tr) else none
def getC (r : Option (D × List D × Bool)) : Option (D × List D) := r.map fun x => (x.1, x.2.1)
def getZ (r : Option (D × List D × Bool)) : Bool := match r with
  | some x => x.2.2
  | none => false
/-- the defs by depth -/
def runT (T : List Fd) (W : Nat) : Nat → Nat → List D → Option (D × List D × Bool)
  | 0, _, _ => none
  | n + 1, f, ds => (T[f]?).bind fun fd => bodyRun (fun g es => getC (runT T W n g es)) (fun g es => getZ (runT T W n g es)) W fd ds
def CT (T : List Fd) (W n : Nat) : Nat → List D → Option (D × List D) := fun g es => getC (runT T W n g es)
def ZT (T : List Fd) (W n : Nat) : Nat → List D → Bool := fun g es => getZ (runT T W n g es)
end PD

/-! PD20: what is new: the heap without the lists of the entry. -/
namespace PD
open PySem PySem.Spec PyProof.Rows L2

/-- a list, be it known to its last word or not -/
def isL : HO → Bool
  | .lst _ => true
  | .frz _ (.lst _) => true
  | _ => false
/-- F without the lists of O -/
def cutF (F O : Hp) : Hp := fun b => match O b with
  | some u => if isL u then none else F b
  | none => F b
def mrg (F F1 : Hp) : Hp := fun b => match F b with
  | some o => some o
  | none => F1 b
section
variable {K : PySem.W.Frag}
theorem cutF_le {F O : Hp} : Same (cutF F O) F := fun b o h => by
  unfold cutF at h
  split at h
  · split at h
    · cases h
    · exact h
  · exact h
theorem cutF_of {F O : Hp} {b : Addr} {o : HO} (h : F b = some o) (n : ∀ u, O b = some u → isL u = false) : cutF F O b = some o := by
  unfold cutF
  split
  · rename_i u e; rw [n u e]; exact h
  · exact h
theorem cutF_no {F O : Hp} {b : Addr} {u : HO} (h : O b = some u) (l : isL u = true) : cutF F O b = none := by
  unfold cutF
  rw [h]
  show (if isL u = true then none else F b) = none
  rw [if_pos l]
theorem cutF_in {F O : Hp} {b : Addr} {o : HO} (h : cutF F O b = some o) : F b = some o ∧ ∀ u, O b = some u → isL u = false := by
  refine ⟨cutF_le _ _ h, fun u e => ?_⟩
  cases q : isL u with
  | false => rfl
  | true => rw [cutF_no e q] at h; cases h
theorem cutF_mono {F F' O : Hp} (s : Same F F') : Same (cutF F O) (cutF F' O) := fun b o h => by
  obtain ⟨h1, h2⟩ := cutF_in h
  exact cutF_of (s _ _ h1) h2
theorem mrg_l {F F1 : Hp} : Same F (mrg F F1) := fun b o h => by
  unfold mrg
  rw [h]
mutual
theorem Rp.lfree {F F' : Hp} (s : ∀ b u, F b = some u → isL u = false → F' b = some u) : ∀ (d : D) (v : V), lf d = true → Rp K F v d → Rp K F' v d
  | .none, _, _, h => by cases h; exact .non
  | .bool _, _, _, h => by cases h; exact .bl _
  | .int _, _, _, h => by cases h; exact .int _
  | .str _, _, _, h => by cases h; exact .str _
  | .list _, _, l, _ => by simp [lf] at l
  | .dict _, _, l, _ => by simp [lf] at l
  | .tuple ds, _, l, h => by
    cases h with
    | tup h1 h2 =>
      refine .tup ?_ (RpAll.lfree s ds _ (by simpa [lf] using l) h2)
      rcases h1 with (h1 | ⟨o, h1⟩) | h1
      · exact .inl (.inl (s _ _ h1 rfl))
      · exact .inl (.inr ⟨o, s _ _ h1 rfl⟩)
      · exact .inr h1
theorem RpAll.lfree {F F' : Hp} (s : ∀ b u, F b = some u → isL u = false → F' b = some u) : ∀ (ds : List D) (vs : List V), lfs ds = true → RpAll K F vs ds → RpAll K F' vs ds
  | [], _, _, h => by cases h; exact .nil
  | d :: r, _, l, h => by
    have l : lf d = true ∧ lfs r = true := by simpa [lfs] using l
    cases h with
    | cons h1 h2 => exact .cons (Rp.lfree s d _ l.1 h1) (RpAll.lfree s r _ l.2 h2)
end
theorem lf_cut {F O : Hp} (f0 : Same O F) {d : D} {v : V} (l : lf d = true) (h : Rp K F v d) : Rp K (cutF F O) v d := Rp.lfree (fun b u e n => cutF_of e fun x z => by rw [f0 _ _ z] at e; cases e; exact n) d v l h
theorem lfs_cut {F O : Hp} (f0 : Same O F) {ds : List D} {vs : List V} (l : lfs ds = true) (h : RpAll K F vs ds) : RpAll K (cutF F O) vs ds := RpAll.lfree (fun b u e n => cutF_of e fun x z => by rw [f0 _ _ z] at e; cases e; exact n) ds vs l h

/-- what is told by a flag -/
def FlOk (K : PySem.W.Frag) (B : Bs) (F : Hp) (σ : L2.St) (fl : Fl) : Prop := ∀ p ∈ fl, ∃ v, svAt σ p.2.1 = some v ∧ if p.1 = true then Rp K (cutF F B.F0) v p.2.2 else Rp K B.F0 v p.2.2
variable {B : Bs} {σ : L2.St} {F F' H H' : Hp} {env env' : En} {fl : Fl}
theorem FlOk.mono (h : FlOk K B F σ fl) (s : Same F F') : FlOk K B F' σ fl := fun p hp => by
  obtain ⟨v, e, h⟩ := h p hp
  refine ⟨v, e, ?_⟩
  split at h
  · rename_i c; rw [if_pos c]; exact Rp.mono (cutF_mono s) _ _ h
  · rename_i c; rw [if_neg c]; exact h
theorem FlOk.sub {fl' : Fl} (h : FlOk K B F σ fl) (s : ∀ p ∈ fl', p ∈ fl) : FlOk K B F σ fl' := fun p hp => h p (s p hp)
/-- slots without any list to change -/
theorem slot_map (f : Slot → Slot) (h0 : f .no = .no) (env : En) (i : Nat) : slot (env.map f) i = f (slot env i) := by
  unfold slot
  rw [List.getD_eq_getElem?_getD, List.getD_eq_getElem?_getD, List.getElem?_map]
  cases env[i]? with
  | none => exact h0.symm
  | some s => rfl
theorem setAll_len (b : Bool) (env : En) : ∀ fl, (setAll b env fl).length = env.length
  | [] => rfl
  | p :: r => by
    rw [setAll]
    split
    · rw [List.length_set, setAll_len b env r]
    · exact setAll_len b env r
theorem setAll_slot (b : Bool) (env : En) (i : Nat) : ∀ fl, slot (setAll b env fl) i = slot env i ∨ ∃ p ∈ fl, p.1 = b ∧ p.2.1 = i ∧ slot (setAll b env fl) i = .val p.2.2
  | [] => .inl rfl
  | p :: r => by
    rw [setAll]
    split
    · rename_i c
      by_cases hi : i = p.2.1 ∧ p.2.1 < (setAll b env r).length
      · refine .inr ⟨p, List.mem_cons_self, c, hi.1.symm, ?_⟩
        rw [slot_set, if_pos hi]
      · rw [slot_set, if_neg hi]
        rcases setAll_slot b env i r with q | ⟨q, h1, h2⟩
        · exact .inl q
        · exact .inr ⟨q, List.mem_cons_of_mem _ h1, h2⟩
    · rcases setAll_slot b env i r with q | ⟨q, h1, h2⟩
      · exact .inl q
      · exact .inr ⟨q, List.mem_cons_of_mem _ h1, h2⟩
theorem cutE_nomut (i : Nat) : isMut (slot (cutE env fl) i) = false := by
  unfold cutE
  rcases setAll_slot true (env.map lfSlot) i fl with q | ⟨p, _, _, _, q⟩
  · rw [q, slot_map _ rfl]
    cases slot env i with
    | val d =>
      show isMut (if lf d = true then Slot.val d else .no) = false
      split <;> rfl
    | _ => rfl
  · rw [q]; rfl
/-- the bounds for a run on what is new alone -/
def Bn (B : Bs) (F H : Hp) : Bs := ⟨H, cutF F B.F0, none⟩
theorem Rl.cut (r : Rl K B F env σ H) (f : FlOk K B F σ fl) : Rl K (Bn B F H) (cutF F B.F0) (cutE env fl) σ H := by
  refine ⟨cutF_le.trans r.fh, Same.refl _, fun _ _ _ h => h, fun _ _ h _ => h, (fun _ h => by cases h), fun i => ?_, fun i j a m _ _ _ => ?_, ?_, fun _ _ _ h => h⟩
  · have base : slot (cutE env fl) i = lfSlot (slot env i) → SlOk K (Bn B F H) (cutF F B.F0) H (svAt σ i) (slot (cutE env fl) i) := fun q => by
      rw [q]
      have hs := r.sl i
      cases hq : slot env i with
      | val d =>
        rw [hq] at hs
        obtain ⟨x, e, h⟩ := hs
        show SlOk _ _ _ _ _ (if lf d = true then Slot.val d else .no)
        split
        · rename_i l; exact ⟨x, e, lf_cut r.f0 l h⟩
        · trivial
      | _ => trivial
    rcases setAll_slot true (env.map lfSlot) i fl with q | ⟨p, h1, h2, h3, q⟩
    · exact base (by unfold cutE; rw [q, slot_map _ rfl])
    · have q : slot (cutE env fl) i = .val p.2.2 := q
      rw [q]
      obtain ⟨v, e, h⟩ := f p h1
      rw [if_pos h2] at h
      rw [h3] at e
      exact ⟨v, e, h⟩
  · rw [cutE_nomut] at m; cases m
  · unfold cutE
    rw [setAll_len, List.length_map]
    exact r.len
/-- .. and behind it -/
structure CutS (K : PySem.W.Frag) (B : Bs) (σ : L2.St) (F : Hp) (env : En) (H F1 H1 : Hp) : Prop where
  stp : Stp K B σ F env H (mrg F F1) env H1
  up : Same F1 (cutF (mrg F F1) B.F0)
theorem cut_back {O : Hp} (hO : ∀ b u, B.F0 b = some u → isL u = true → ∃ y, O b = some y ∧ isL y = true) (r : Rl K B F env σ H) {F1 H1 : Hp} (fh : Same F1 H1) (hh : Same H H1) (fr : ∀ b o, H b = some o → cutF F O b = none → F1 b = none) (nz : ∀ b o u, F1 b = some (.frz o u) → cutF F O b = some (.frz o u)) : CutS K B σ F env H F1 H1 := by
  have up : Same F1 (cutF (mrg F F1) B.F0) := fun b o h => by
    refine cutF_of ?_ fun x z => ?_
    · unfold mrg
      cases e : F b with
      | none => exact h
      | some o' =>
        have h1 := hh _ _ (r.fh _ _ e)
        rw [fh _ _ h] at h1
        exact h1.symm
    · cases hx : isL x with
      | false => rfl
      | true =>
        obtain ⟨y, e, l⟩ := hO b x z hx
        rw [fr b _ (r.fh _ _ (r.f0 _ _ z)) (cutF_no e l)] at h
        cases h
  refine ⟨r.called ⟨mrg_l, fun b o h => ?_, fun b o h n => ?_, fun b o h _ => hh _ _ h, fun b o u h => ?_, (fun _ z => by cases z)⟩, up⟩
  · unfold mrg at h
    split at h
    · rename_i o' e
      cases h
      exact hh _ _ (r.fh _ _ e)
    · exact fh _ _ h
  · unfold mrg
    rw [n]
    exact fr b o h (by
      cases q : cutF F O b with
      | none => rfl
      | some u => rw [cutF_le _ _ q] at n; cases n)
  · unfold mrg at h
    split at h
    · rename_i o' e
      cases h
      exact e
    · exact cutF_le _ _ (nz _ _ _ h)
theorem Stp.cutBack (r : Rl K B F env σ H) {F1 H1 : Hp} {env1 : En} (s : Stp K (Bn B F H) σ (cutF F B.F0) (cutE env fl) H F1 env1 H1) : CutS K B σ F env H F1 H1 :=
  cut_back (O := B.F0) (fun _ u h l => ⟨u, h, l⟩) r s.rl.fh (fun b o h => s.fr b o h fun ⟨i, m, _⟩ => by rw [cutE_nomut] at m; cases m) (fun b o h n => s.fz b o h n fun ⟨i, m, _⟩ => by rw [cutE_nomut] at m; cases m) s.rl.nz
/-- behind a call at which no list is told of -/
theorem Rl.calledCut (r : Rl K B F env σ H) {F1 H1 : Hp} (p : Post K none (cutF F F) H F1 H1 []) : CutS K B σ F env H F1 H1 :=
  cut_back (O := F) (fun b u h l => ⟨u, r.f0 _ _ h, l⟩) r p.fh (fun b o h => p.keep b o h nofun) p.fresh p.nz
theorem cutF_sub {F O O' : Hp} (s : Same O O') : Same (cutF F O') (cutF F O) := fun b o h => by
  obtain ⟨h1, h2⟩ := cutF_in h
  exact cutF_of h1 fun u e => h2 u (s _ _ e)
end

/-- a def's promise with what is told of the new -/
def spZ (K : PySem.W.Frag) (C : List D → Option (D × List D)) (Z : List D → Bool) : Sp := fun vs H Q _ => ∃ F ds d gs, Same F H ∧ RpAll K F vs ds ∧ C ds = some (d, gs) ∧
  ∀ v F' H', Post K none F H F' H' [] → Rp K F' v d → (Z ds = true → Rp K (cutF F' F) v d) → Q v H'
def GZ (P : Program) (w : World) (K : PySem.W.Frag) (mg : Str → Option Value) (base : Heap) (Γ : Gm) (C : Nat → List D → Option (D × List D)) (Z : Nat → List D → Bool) (k : Nat) : Prop :=
  ∀ x i ps, Γ.defs.lookup x = some (i, ps, false) → ∃ f fd, mg x = some (.ref f) ∧ PySem.W.keepIn K (.ref f) = true ∧ Binds K fd ps [] ∧ FG P w K mg base CX0 k f fd ps (spZ K (C i) (Z i))
end PD

/-! PD21: expressions with what is told of the new. -/
namespace PD
open PySem PySem.Spec PyProof.Rows L2

structure Sy (X : Cx) (N : List Str) (Γ : Gm) (C : Nat → List D → Option (D × List D)) (Z : Nat → List D → Bool) (k : Nat) (sc : Scope) : Prop where
  sx : Sx X N Γ C k sc
  gz : GZ X.prog X.w X.K X.mg X.base Γ C Z k
/-- a call of a def that changes no argument -/
def isCallE (Γ : Gm) (sc : Scope) : Expr → Bool
  | .Call (.Name f _) es [] _ => glB sc f && !oddName f && (match Γ.defs.lookup f with
      | some (_, _, m) => !m
      | none => false)
  | _ => false
section
variable (K : PySem.W.Frag) (B : Bs)
/-- v is a new list, not kept yet -/
def NewL (σ : L2.St) (F : Hp) (env : En) (H : Hp) (env' : En) (H' : Hp) (v : V) (es : List D) : Prop :=
  ∃ a vs Fn, v = .ref a ∧ Stp K B σ F env H Fn env' H' ∧ Fn a = none ∧ H' a = some (.lst vs) ∧ B.H0 a = none ∧ ¬ MutAt env' σ a ∧ RpAll K Fn vs es
variable (C : Nat → List D → Option (D × List D)) (Z : Nat → List D → Bool)
def tCZ (i : Nat) (qs : List Ex) : TE := fun σ H Q => ∃ F env, Rl K B F env σ H ∧ ∃ ds env' d gs, evL C qs env = some (ds, env') ∧ C i ds = some (d, gs) ∧
  ∀ v F' H', Stp K B σ F env H F' env' H' → Rp K F' v d → ((Z i ds || lfs ds || lf d) = true → Rp K (cutF F' B.F0) v d) → ((Z i ds || lfs ds) = true → ∀ es, d = .list es → lfs es = true → NewL K B σ F env H env' H' v es) → Q v H'
/-- an expression, with flags -/
def tF (tr : Bool) (m : Md) (p : Ex) : TE := fun σ H Q => ∃ F env fl, Rl K B F env σ H ∧ FlOk K B F σ fl ∧ ∃ d b env', evF C Z tr m p env fl = some (d, b, env') ∧
  ∀ v F' H', Stp K B σ F env H F' env' H' → Rp K F' v d → (b = true → Rp K (cutF F' B.F0) v d) → Q v H'
end
section
variable {N : List Str} {Γ : Gm} {C : Nat → List D → Option (D × List D)} {Z : Nat → List D → Bool} {k : Nat} {B : Bs} {X : Cx} {sc : Scope} {n : Nat}
theorem isCallE_in {e : Expr} {p : Ex} (h : isCallE Γ sc e = true) (hc : cE Γ N (n + 1) sc e = some p) :
    ∃ f fp es pos i ps qs, e = .Call (.Name f fp) es [] pos ∧ p = .call i [] qs ∧ glB sc f = true ∧ oddName f = false ∧ Γ.defs.lookup f = some (i, ps, false) ∧ cL Γ N n sc es = some qs := by
  unfold isCallE at h
  split at h
  · rename_i f fp es pos
    rw [Bool.and_eq_true, Bool.and_eq_true] at h
    obtain ⟨⟨h1, h2⟩, h3⟩ := h
    have h2 : oddName f = false := by simpa using h2
    split at h3
    · rename_i i ps m hd
      have h3 : m = false := by simpa using h3
      subst h3
      simp only [cE] at hc
      rw [h1, h2, hd] at hc
      simp only [Bool.not_true, Bool.or_false, if_false, Bool.false_eq_true] at hc
      split at hc
      · obtain ⟨qs, g, rfl⟩ := Option.map_eq_some_iff.mp hc
        exact ⟨f, fp, es, pos, i, ps, qs, rfl, rfl, h1, h2, hd, g⟩
      · cases hc
    · cases h3
  · cases h
/-- a new list as a call leaves it -/
theorem newL_of {K : PySem.W.Frag} {σ : L2.St} {F F1 F2 H H1 H2 : Hp} {env env' : En} {a : Addr} {vs : List V} {es : List D} (s1 : Stp K B σ F env H F1 env' H1) (hh : Same H1 H2) (fh : Same F2 H2) (n1 : H1 a = none) (h2 : F2 a = some (.lst vs)) (l : lfs es = true) (hr : RpAll K F2 vs es)
    (g : ∀ b o, H1 b = some o → F1 b = none → mrg F1 F2 b = none) (gz : ∀ b o u, F2 b = some (.frz o u) → F1 b = some (.frz o u)) : NewL K B σ F env H env' H2 (.ref a) es := by
  let Fn : Hp := fun b => if b = a then none else mrg F1 F2 b
  have nb : ∀ {b o}, H1 b = some o → b ≠ a := fun {b o} e z => by rw [z, n1] at e; cases e
  have r1 := s1.rl
  have p : Post K none F1 H1 Fn H2 [] := by
    refine ⟨fun b o e => ?_, fun b o e => ?_, fun b o e f => ?_, fun b o e _ => hh _ _ e, fun b o u e => ?_, (fun _ z => by cases z)⟩
    · show (if b = a then none else mrg F1 F2 b) = some o
      rw [if_neg (nb (r1.fh _ _ e))]
      exact mrg_l _ _ e
    · have e : (if b = a then none else mrg F1 F2 b) = some o := e
      split at e
      · cases e
      · unfold mrg at e
        split at e
        · rename_i o' e'
          cases e
          exact hh _ _ (r1.fh _ _ e')
        · exact fh _ _ e
    · show (if b = a then none else mrg F1 F2 b) = none
      split
      · rfl
      · exact g b o e f
    · have e : (if b = a then none else mrg F1 F2 b) = some (.frz o u) := e
      split at e
      · cases e
      · unfold mrg at e
        split at e
        · rename_i o' e'
          cases e
          exact e'
        · exact gz _ _ _ e
  have s2 := s1.trans (r1.called p)
  refine ⟨a, vs, Fn, rfl, s2, if_pos rfl, fh _ _ h2, ?_, fun ⟨i, m, e⟩ => ?_, ?_⟩
  · cases q : B.H0 a with
    | none => rfl
    | some o =>
      by_cases hg : B.g = some a
      · obtain ⟨u, e⟩ := r1.gk a hg
        rw [n1] at e; cases e
      · have e := r1.keep a o q hg
        rw [n1] at e; cases e
  · obtain ⟨us, e1, _⟩ := (r1.sl i).tracked m e
    rw [n1] at e1; cases e1
  · refine RpAll.lfree (fun b u e nl => ?_) es vs l hr
    show (if b = a then none else mrg F1 F2 b) = some u
    rw [if_neg (fun z => by rw [z, h2] at e; cases e; cases nl)]
    unfold mrg
    split
    · rename_i o' e'
      have q1 := hh _ _ (r1.fh _ _ e')
      rw [fh _ _ e] at q1
      exact q1.symm
    · exact e
theorem callZ_ok (S : Sy X N Γ C Z k sc) {f : Str} {i : Nat} {ps : List Str} {es : List Expr} {qs : List Ex} {p pos : Pos} (hg : glB sc f = true) (ho : oddName f = false) (hd : Γ.defs.lookup f = some (i, ps, false)) (hA : cL Γ N n sc es = some qs) :
    PE X (.Call (.Name f p) es [] pos) (tCZ X.K B C Z i qs) := by
  obtain ⟨fa, fd, h1, h2, h3, h4⟩ := S.gz f i ps hd
  obtain ⟨g1, g2⟩ := exs_ok (B := B) hA S.sx
  have key : ∀ {σ : L2.St} {H : Hp} {Q : VK}, tCZ X.K B C Z i qs σ H Q → tL X.K B C qs σ H fun vs H1 => spZ X.K (C i) (Z i) vs H1 Q E0 := fun {σ H Q} ⟨F, env, r, ds, env', d, gs, e1, e2, q⟩ => by
    refine ⟨F, env, r, ds, _, e1, fun vs F1 H1 s1 k1 => ?_⟩
    have r1 := s1.rl
    by_cases hl : lfs ds = true
    · -- the arguments tell of no list
      have pa : RpAll X.K (cutF F1 F1) vs ds := lfs_cut (Same.refl _) hl k1
      refine ⟨cutF F1 F1, ds, d, gs, cutF_le.trans r1.fh, pa, e2, fun v F2 H2 po hv _ => ?_⟩
      have c := r1.calledCut po
      have c2 : Rp X.K (cutF (mrg F1 F2) B.F0) v d := Rp.mono c.up _ _ hv
      refine q v (mrg F1 F2) H2 (s1.trans c.stp) (Rp.mono cutF_le _ _ c2) (fun _ => c2) fun _ es hes les => ?_
      subst hes
      cases hv with
      | @lst a us _ v1 v2 =>
        have nol : ∀ {u}, cutF F1 F1 a = some u → isL u = false := fun {u} q => (cutF_in q).2 u (cutF_in q).1
        have v1 : F2 a = some (.lst us) := by
          rcases v1 with v1 | ⟨o, v1⟩
          · exact v1
          · cases nol (po.nz _ _ _ v1)
        have n1 : H1 a = none := by
          cases q1 : H1 a with
          | none => rfl
          | some o =>
            cases q2 : cutF F1 F1 a with
            | none => rw [po.fresh a o q1 q2] at v1; cases v1
            | some u =>
              have q3 := po.ff _ _ q2
              rw [v1] at q3
              cases q3
              cases nol q2
        exact newL_of s1 (fun b o e => po.keep b o e nofun) po.fh n1 v1 les v2 (fun b o e f => by
          unfold mrg
          rw [f]
          refine po.fresh b o e ?_
          cases q2 : cutF F1 F1 b with
          | none => rfl
          | some u => rw [cutF_le _ _ q2] at f; cases f) fun b o u e => cutF_le _ _ (po.nz _ _ _ e)
    · refine ⟨F1, ds, d, gs, r1.fh, k1, e2, fun v F2 H2 po hv hz => ?_⟩
      have s2 := s1.trans (r1.called po)
      have zz : (Z i ds || lfs ds) = true → Z i ds = true := fun h => by
        have hl : lfs ds = false := by simpa using hl
        rw [hl, Bool.or_false] at h; exact h
      refine q v F2 H2 s2 hv (fun h => ?_) fun h es hes les => ?_
      · rw [Bool.or_eq_true] at h
        rcases h with h | h
        · exact Rp.mono (cutF_sub r1.f0) _ _ (hz (zz h))
        · exact lf_cut s2.rl.f0 h hv
      · subst hes
        have hz := hz (zz h)
        cases hv with
        | @lst a us _ v1 v2 =>
          have nol : ∀ {u}, F1 a = some u → isL u = false := fun {u} q => by
            cases hz with
            | lst w1 w2 =>
              rcases w1 with w1 | ⟨o, w1⟩
              · exact (cutF_in w1).2 u q
              · exact (cutF_in w1).2 u q
          have v1 : F2 a = some (.lst us) := by
            rcases v1 with v1 | ⟨o, v1⟩
            · exact v1
            · cases nol (po.nz _ _ _ v1)
          have n1 : H1 a = none := by
            cases q1 : H1 a with
            | none => rfl
            | some o =>
              cases q2 : F1 a with
              | none => rw [po.fresh a o q1 q2] at v1; cases v1
              | some u =>
                have q3 := po.ff _ _ q2
                rw [v1] at q3
                cases q3
                cases nol q2
          exact newL_of s1 (fun b o e => po.keep b o e nofun) po.fh n1 v1 les v2 (fun b o e f => by
            unfold mrg
            rw [f]
            exact po.fresh b o e f) po.nz
  cases es with
  | nil =>
    have : qs = [] := List.eq_nil_of_length_eq_zero (eval_len hA)
    subst this
    exact PE.imp (pe_callG0 (E := E0) h4 S.sx.gd S.sx.room (gl_in S.sx hg) h1 h2 h3 pass0 (odd_db ho)) fun σ H Q h => tL_nil (key h)
  | cons e es => exact PE.imp (pe_callG (E := E0) h4 S.sx.gd S.sx.room (gl_in S.sx hg) h1 h2 h3 pass0 g1 (odd_db ho) g2) fun σ H Q h => key h

/-- .. its compiling -/
def mdOk (Γ : Gm) (sc : Scope) (m : Md) (e : Expr) : Bool := match m with
  | .call => isCallE Γ sc e
  | _ => true
theorem tF_ok {tr : Bool} {m : Md} {e : Expr} {p : Ex} (S : Sy X N Γ C Z k sc) (h : cE Γ N (n + 1) sc e = some p) (hm : mdOk Γ sc m e = true) : PE X e (tF X.K B C Z tr m p) := by
  cases m with
  | plain =>
    refine PE.imp (ex_ok (B := B) h S.sx).1 fun σ H Q ⟨F, env, fl, r, f, d, b, env', ev, q⟩ => ?_
    obtain ⟨⟨d', e1⟩, h1, h2⟩ := Option.map_eq_some_iff.mp ev
    cases h2
    refine ⟨F, env, r, _, _, h1, fun v F' H' s hv => q v F' H' s hv fun hb => ?_⟩
    rw [Bool.and_eq_true] at hb
    exact lf_cut s.rl.f0 hb.2 hv
  | cut =>
    refine ⟨fun pins s σ H Q I ⟨F, env, fl, r, f, d, b, env', ev, q⟩ => ?_⟩
    obtain ⟨⟨d', e1⟩, h1, h2⟩ := Option.map_eq_some_iff.mp ev
    cases h2
    refine (ex_ok (B := Bn B F H) h S.sx).1.run pins s σ H Q I ⟨_, _, r.cut f, _, _, h1, fun v F1 H1 s1 hv => ?_⟩
    have c := s1.cutBack r
    have c2 := Rp.mono c.up _ _ hv
    exact q v _ H1 c.stp (Rp.mono cutF_le _ _ c2) fun _ => c2
  | call =>
    obtain ⟨f, fp, es, pos, i, ps, qs, rfl, rfl, h1, h2, h3, h4⟩ := isCallE_in hm h
    refine PE.imp (callZ_ok (B := B) S h1 h2 h3 h4) fun σ H Q ⟨F, env, fl, r, f, d, b, env', ev, q⟩ => ?_
    obtain ⟨⟨ds, e1⟩, g1, ev⟩ := Option.bind_eq_some_iff.mp ev
    obtain ⟨⟨d', gs⟩, g2, g3⟩ := Option.map_eq_some_iff.mp ev
    cases g3
    refine ⟨F, env, r, ds, _, _, gs, g1, g2, fun v F' H' s hv hz _ => q v F' H' s hv fun hb => ?_⟩
    rw [Bool.and_eq_true] at hb
    exact hz hb.2
end
end PD

/-! PD22: the statements' readings. -/
namespace PD
open PySem PySem.Spec PyProof.Rows L2

structure RlF (K : PySem.W.Frag) (B : Bs) (tr : Bool) (F : Hp) (env : En) (fl : Fl) (σ : L2.St) (H : Hp) : Prop where
  rl : Rl K B F env σ H
  fo : FlOk K B F σ fl
  ne : tr = false → fl = []
/-- what follows an end -/
def aft (K : PySem.W.Frag) (B : Bs) (tr : Bool) (mono : Bool) (F : Hp) (D : Ends) : Fw → Prop
  | .nx e l => ∀ σ' F' H', RlF K B tr F' e l σ' H' → (mono = true → Same F F') → D.nx σ' H'
  | .bk e l => ∀ σ' F' H', RlF K B tr F' e l σ' H' → (mono = true → Same F F') → D.bk σ' H'
  | .ct e l => ∀ σ' F' H', RlF K B tr F' e l σ' H' → (mono = true → Same F F') → D.ct σ' H'
  | .rt d b e => ∀ v σ' F' H', Rl K B F' e σ' H' → Rp K F' v d → (b = true → Rp K (cutF F' B.F0) v d) → D.rt v H'
/-- a statement's reading -/
def tM (K : PySem.W.Frag) (B : Bs) (tr : Bool) (prog : En → Fl → Option Fw) (mono : Bool) : TS := fun D σ H => ∃ F env fl fw, RlF K B tr F env fl σ H ∧ prog env fl = some fw ∧ aft K B tr mono F D fw
section
variable {K : PySem.W.Frag} {B : Bs} {C : Nat → List D → Option (D × List D)} {Z : Nat → List D → Bool} {W : Nat} {tr : Bool} {σ : L2.St} {F F' H H' : Hp} {env env' : En} {fl : Fl} {D : Ends} {mono : Bool}
theorem RlF.stp (R : RlF K B tr F env fl σ H) (s : Stp K B σ F env H F' env' H') : RlF K B tr F' env' fl σ H' := ⟨s.rl, R.fo.mono s.ff, R.ne⟩
theorem mem_rmF {l : List Nat} {fl : Fl} {p : Bool × Nat × PD.D} (h : p ∈ rmF l fl) : p ∈ fl ∧ p.2.1 ∉ l := by
  unfold rmF at h
  rw [List.mem_filter] at h
  exact ⟨h.1, by simpa using h.2⟩
theorem FlOk.other {σ' : L2.St} {l : List Nat} (h : FlOk K B F σ fl) (e : ∀ j, j ∉ l → σ'[j]? = σ[j]?) : FlOk K B F σ' (rmF l fl) := fun p hp => by
  obtain ⟨h1, h2⟩ := mem_rmF hp
  obtain ⟨v, e1, h3⟩ := h p h1
  exact ⟨v, by unfold svAt; rw [e _ h2]; exact e1, h3⟩
theorem FlOk.cons {v : V} {d : PD.D} {i : Nat} (h : FlOk K B F σ fl) (e : svAt σ i = some v) (hd : Rp K (cutF F B.F0) v d) : FlOk K B F σ ((true, i, d) :: fl) := fun p hp => by
  rcases List.mem_cons.mp hp with rfl | hp
  · exact ⟨v, e, by rw [if_pos rfl]; exact hd⟩
  · exact h p hp
theorem setOther {i : Nat} {o : Option V} : ∀ j, j ∉ [i] → (σ.set i o)[j]? = σ[j]? := fun j hj => by
  rw [List.getElem?_set_ne]
  exact fun z => hj (by rw [z]; simp)
/-- a name gets a value -/
theorem RlF.setV (R : RlF K B tr F env fl σ H) {i : Nat} {v : V} {d : PD.D} {b : Bool} (hi : i < env.length) (h : Rp K F v d) (hb : b = true → Rp K (cutF F B.F0) v d) : RlF K B tr F (env.set i (.val d)) (updF tr b (.nm i) d fl) (σ.set i (some v)) H := by
  have hl : i < σ.length := by rw [← R.rl.len]; exact hi
  refine ⟨R.rl.setV hi h, ?_, fun t => ?_⟩
  · unfold updF
    cases tr with
    | false => rw [if_neg (by decide), R.ne rfl]; exact fun p hp => by cases hp
    | true =>
      rw [if_pos rfl]
      have base : FlOk K B F (σ.set i (some v)) (rmF [i] fl) := R.fo.other setOther
      show FlOk K B F _ ((if b = true then [(true, i, d)] else []) ++ rmF [i] fl)
      split
      · rename_i hbt
        exact FlOk.cons base (sv_set_same hl) (hb hbt)
      · exact base
  · unfold updF
    subst t
    rw [if_neg (by decide)]
    exact R.ne rfl
theorem asg_nm {i : Nat} {d : PD.D} {e1 e2 : En} (h : asg (.nm i) d e1 = some e2) : isBrw (slot e1 i) = false ∧ i < e1.length ∧ e2 = e1.set i (.val d) := by
  rw [asg] at h
  split at h
  · cases h
  · rename_i hb
    split at h
    · rename_i hl
      cases h
      exact ⟨by simpa using hb, hl, rfl⟩
    · cases h
theorem asgN_imp {m : Md} {i : Nat} {p : Ex} (h : tM K B tr (exS C Z W tr (.asg m (.nm i) p)) mono D σ H) : tAsg (tF K B C Z tr m p) (gName i) D σ H := by
  obtain ⟨F, env, fl, fw, R, e, a⟩ := h
  rw [exS] at e
  obtain ⟨⟨d, b, e1⟩, h1, e⟩ := Option.bind_eq_some_iff.mp e
  obtain ⟨e2, h2, h3⟩ := Option.map_eq_some_iff.mp e
  obtain ⟨_, hl, rfl⟩ := asg_nm h2
  cases h3
  exact ⟨F, env, fl, R.rl, R.fo, d, b, e1, h1, fun v F' H' s hv hb => a _ F' H' ((R.stp s).setV hl hv hb) fun _ => s.ff⟩
mutual
theorem tgIn_sub {l : List Nat} : ∀ (t : Tg), (∀ j ∈ tgN t, j ∈ l) → tgIn l t = true
  | .nm i, h => by simpa [tgIn] using h i (by simp [tgN])
  | .tp ts, h => by rw [tgIn]; exact tgsIn_sub ts fun j hj => h j (by rw [tgN]; exact hj)
theorem tgsIn_sub {l : List Nat} : ∀ (ts : List Tg), (∀ j ∈ tgsN ts, j ∈ l) → tgsIn l ts = true
  | [], _ => rfl
  | t :: ts, h => by
    rw [tgsIn, Bool.and_eq_true]
    exact ⟨tgIn_sub t fun j hj => h j (by rw [tgsN]; exact List.mem_append_left _ hj), tgsIn_sub ts fun j hj => h j (by rw [tgsN]; exact List.mem_append_right _ hj)⟩
end
/-- behind a store in a target, flags and all -/
theorem RlF.stored (R : RlF K B tr F env fl σ H) {t : Tg} {d : PD.D} {e1 : En} {σ1 : L2.St} (b : Bool) (hn : ∀ i, t ≠ .nm i) (r1 : Rl K B F e1 σ1 H) (k1 : ∀ l, tgIn l t = true → ∀ j, j ∉ l → σ1[j]? = σ[j]?) : RlF K B tr F e1 (updF tr b t d fl) σ1 H := by
  refine ⟨r1, ?_, fun z => ?_⟩
  · unfold updF
    cases tr with
    | false => rw [if_neg (by decide), R.ne rfl]; exact fun p hp => by cases hp
    | true =>
      rw [if_pos rfl]
      have : tgF b t d = [] := by
        cases t with
        | nm i => exact absurd rfl (hn i)
        | tp ts => cases d <;> rfl
      rw [this]
      exact R.fo.other (k1 _ (tgIn_sub t fun _ h => h))
  · unfold updF
    subst z
    rw [if_neg (by decide)]
    exact R.ne rfl
theorem asgT_imp {m : Md} {t : Tg} {p : Ex} (hn : ∀ i, t ≠ .nm i) (h : tM K B tr (exS C Z W tr (.asg m t p)) mono D σ H) : tAsg (tF K B C Z tr m p) (tG K B t) D σ H := by
  obtain ⟨F, env, fl, fw, R, e, a⟩ := h
  rw [exS] at e
  obtain ⟨⟨d, b, e1⟩, h1, e⟩ := Option.bind_eq_some_iff.mp e
  obtain ⟨e2, h2, h3⟩ := Option.map_eq_some_iff.mp e
  cases h3
  exact ⟨F, env, fl, R.rl, R.fo, d, b, e1, h1, fun v F' H' s hv hb => ⟨F', e1, d, e2, s.rl, hv, h2, fun σ1 r1 k1 => a σ1 F' H' ((R.stp s).stored b hn r1 k1) fun _ => s.ff⟩⟩
/-- a name gets a new list of its own -/
theorem Rl.setOwn (r : Rl K B F env σ H) {i : Nat} {a : Addr} {vs : List V} {ds : List PD.D} (hi : i < env.length) (ha : H a = some (.lst vs)) (hf : F a = none) (h0 : B.H0 a = none) (nm : ¬ MutAt env σ a) (h : RpAll K F vs ds) :
    Rl K B F (env.set i (.own ds)) (σ.set i (some (.ref a))) H := by
  have hl : i < σ.length := by rw [← r.len]; exact hi
  refine ⟨r.fh, r.f0, r.fresh, r.keep, r.gk, fun j => ?_, fun j k b m1 m2 e1 e2 => ?_, by rw [List.length_set, List.length_set]; exact r.len, r.nz⟩
  · by_cases hj : j = i
    · subst hj; rw [slot_set_same hi, sv_set_same hl]; exact ⟨a, vs, rfl, ha, hf, h0, h⟩
    · rw [slot_set_ne hj, sv_set_ne hj]; exact r.sl j
  · by_cases hj : j = i
    · by_cases hk : k = i
      · rw [hj, hk]
      · subst hj
        rw [sv_set_same hl] at e1
        cases e1
        rw [slot_set_ne hk] at m2
        rw [sv_set_ne hk] at e2
        exact absurd ⟨k, m2, e2⟩ nm
    · rw [slot_set_ne hj] at m1
      rw [sv_set_ne hj] at e1
      by_cases hk : k = i
      · subst hk
        rw [sv_set_same hl] at e2
        cases e2
        exact absurd ⟨j, m1, e1⟩ nm
      · rw [slot_set_ne hk] at m2
        rw [sv_set_ne hk] at e2
        exact r.sep j k b m1 m2 e1 e2
theorem RlF.setOwn (R : RlF K B tr F env fl σ H) {i : Nat} {a : Addr} {vs : List V} {ds : List PD.D} (hi : i < env.length) (ha : H a = some (.lst vs)) (hf : F a = none) (h0 : B.H0 a = none) (nm : ¬ MutAt env σ a) (h : RpAll K F vs ds) :
    RlF K B tr F (env.set i (.own ds)) (rmF [i] fl) (σ.set i (some (.ref a))) H :=
  ⟨R.rl.setOwn hi ha hf h0 nm h, R.fo.other setOther, fun z => by rw [R.ne z]; rfl⟩
theorem own_imp {i : Nat} {es : List Ex} (hs : ∀ {env env' : En} {ds : List PD.D}, evL C es env = some (ds, env') → ds.length ≤ sizeLine) (h : tM K B tr (exS C Z W tr (.own i es)) mono D σ H) :
    tL K B C es σ H fun vs H1 => vs.length ≤ sizeLine ∧ ∀ p, H1 p = none → D.nx (σ.set i (some (.ref p))) (upd H1 p (.lst vs)) := by
  obtain ⟨F, env, fl, fw, R, e, a⟩ := h
  rw [exS] at e
  obtain ⟨⟨ds, e1⟩, h1, e⟩ := Option.bind_eq_some_iff.mp e
  simp only at e
  split at e
  · cases e
  · split at e
    · rename_i hl
      cases e
      refine ⟨F, env, R.rl, ds, e1, h1, fun vs F1 H1 s1 k1 => ⟨by rw [RpAll.length k1]; exact hs h1, fun p hp => ?_⟩⟩
      have R1 := R.stp s1
      have R2 : RlF K B tr F1 e1 fl σ (upd H1 p (.lst vs)) := R1.stp (R1.rl.laidU hp)
      refine a _ F1 _ (R2.setOwn hl upd_same (none_of_F R1.rl.fh hp) ?_ (fun ⟨j, m, q⟩ => ?_) k1) fun _ => s1.ff
      · cases q : B.H0 p with
        | none => rfl
        | some o =>
          by_cases hg : B.g = some p
          · obtain ⟨u, e⟩ := R1.rl.gk p hg
            rw [hp] at e; cases e
          · have e := R1.rl.keep p o q hg
            rw [hp] at e; cases e
      · obtain ⟨us, e, _⟩ := (R1.rl.sl j).tracked m q
        rw [hp] at e; cases e
    · cases e
theorem ownc_imp {i f : Nat} {pm : List Nat} {es : List Ex} (h : tM K B tr (exS C Z W tr (.ownc i (.call f pm es))) mono D σ H) : tAsg (tCZ K B C Z f es) (gName i) D σ H := by
  obtain ⟨F, env, fl, fw, R, e, a⟩ := h
  rw [exS] at e
  obtain ⟨⟨ds, e1⟩, h1, e⟩ := Option.bind_eq_some_iff.mp e
  obtain ⟨⟨d, gs⟩, h2, e⟩ := Option.bind_eq_some_iff.mp e
  cases d with
  | list es' =>
    simp only at e
    split at e
    · rename_i hc
      cases e
      simp only [Bool.and_eq_true, decide_eq_true_eq] at hc
      obtain ⟨⟨⟨c1, c2⟩, c3⟩, c4⟩ := hc
      refine ⟨F, env, R.rl, ds, e1, _, gs, h1, h2, fun v F' H' s hv _ hn => ?_⟩
      obtain ⟨b, vs, Fn, rfl, sn, n1, n2, n3, n4, n5⟩ := hn c1 es' rfl c2
      exact a _ Fn H' ((R.stp sn).setOwn c4 n2 n1 n3 n4 n5) fun _ => sn.ff
    · cases e
  | _ => cases e
end
end PD

/-! PD23: more of the statements' readings. -/
namespace PD
open PySem PySem.Spec PyProof.Rows L2
theorem PG.imp {X : Cx} {e : Expr} {t t' : TG} (h : PG X e t) (w : ∀ v σ H Q, t' v σ H Q → t v σ H Q) : PG X e t' := ⟨fun pins s σ H v u Q I r q => h.run pins s σ H v u Q I r (w v σ H Q q)⟩
theorem PS.imp {X : Cx} {e : Stmt} {t t' : TS} (h : PS X e t) (w : ∀ D σ H, t' D σ H → t D σ H) : PS X e t' := ⟨fun pins s σ H D I q => h.run pins s σ H D I (w D σ H q)⟩
theorem PSs.imp {X : Cx} {e : List Stmt} {t t' : TS} (h : PSs X e t) (w : ∀ D σ H, t' D σ H → t D σ H) : PSs X e t' := ⟨fun pins s σ H D I q => h.run pins s σ H D I (w D σ H q)⟩
section
variable (K : PySem.W.Frag) (B : Bs) (C : Nat → List D → Option (D × List D)) (Z : Nat → List D → Bool)
/-- a target, flags and all -/
def tGF (tr : Bool) (t : Tg) : TG := fun v σ H Q => ∃ F env fl d b env1, RlF K B tr F env fl σ H ∧ Rp K F v d ∧ (b = true → Rp K (cutF F B.F0) v d) ∧ asg t d env = some env1 ∧ ∀ σ1, RlF K B tr F env1 (updF tr b t d fl) σ1 H → Q σ1 H
def ItZ (J : It) (F : Hp) (xs : List D) : Prop := ∀ i d H x H3, Same F H → xs[i]? = some d → J.yld i H x H3 → H3 = H ∧ Rp K F x d
/-- what is walked, flags and all -/
def tIF (tr : Bool) (m : Md) (ik : IK) (its : List Ex) : TI := fun σ H R => ∃ F env fl, Rl K B F env σ H ∧ FlOk K B F σ fl ∧ ∃ ds b env' xs, evI C Z tr m its env fl = some (ds, b, env') ∧ items ik ds = some xs ∧
  ∀ J F' H', Stp K B σ F env H F' env' H' → ItOk K J F' xs → ((b && decide (ik = .seq)) = true → ItZ K J (cutF F' B.F0) xs) → R J H'
/-- what is new alone, before it is written -/
def tSp (p : Ex) : TE := fun σ H Q => ∃ F env fl, Rl K B F env σ H ∧ FlOk K B F σ fl ∧ ∃ d env', ev C p (cutE env fl) = some (d, env') ∧ ∀ v F1 H1, Stp K (Bn B F H) σ (cutF F B.F0) (cutE env fl) H F1 env' H1 → Rp K F1 v d → Q v H1
end
section
variable {N : List Str} {Γ : Gm} {C : Nat → List D → Option (D × List D)} {Z : Nat → List D → Bool} {W : Nat} {k : Nat} {B : Bs} {X : Cx} {sc : Scope} {n : Nat} {tr mono : Bool} {D : Ends} {σ : L2.St} {H : Hp}
theorem tGF_ok {sct : Scope} (S : Sx X N Γ C k sc) (st : Sto X sct) {e : Expr} {t : Tg} (h : cTg N sct n e = some t) : PG X e (tGF X.K B tr t) := by
  have gen : (∀ i, t ≠ .nm i) → PG X e (tGF X.K B tr t) := fun hn =>
    PG.imp ((tg_ok (B := B) S st n).1 e t h) fun v σ H Q ⟨F, env, fl, d, b, env1, R, hv, hb, ha, q⟩ => ⟨F, env, d, env1, R.rl, hv, ha, fun σ1 r1 k1 => q σ1 (R.stored b hn r1 k1)⟩
  cases n with
  | zero => cases h
  | succ n =>
    cases e with
    | Name x p =>
      have h' := h
      simp only [cTg] at h'
      split at h'
      · rename_i hc
        rw [Bool.and_eq_true] at hc
        obtain ⟨i, hi, rfl⟩ := Option.map_eq_some_iff.mp h'
        obtain ⟨s1, s2⟩ := st x hc.1
        have hx : X.N[i]? = some x := by rw [S.hN]; exact ixOf_get hi
        refine PG.imp (pg_name (X := X) (pos := p) (by rw [S.hN]; exact S.nd) hx s1 s2) fun v σ H Q ⟨F, env, fl, d, b, env1, R, hv, hb, ha, q⟩ => ?_
        obtain ⟨_, hl, rfl⟩ := asg_nm ha
        exact q _ (R.setV hl hv hb)
      · cases h'
    | Tuple es kk p =>
      refine gen fun i z => ?_
      subst z
      simp only [cTg] at h
      obtain ⟨ts, _, e⟩ := Option.map_eq_some_iff.mp h
      cases e
    | _ => simp [cTg] at h
theorem tSp_ok (S : Sx X N Γ C k sc) {e : Expr} {p : Ex} (h : cE Γ N n sc e = some p) : PE X e (tSp X.K B C p) :=
  ⟨fun pins s σ H Q I ⟨F, env, fl, r, f, d, env', e, q⟩ => (ex_ok (B := Bn B F H) h S).1.run pins s σ H Q I ⟨_, _, r.cut f, _, _, e, q⟩⟩
theorem itz_l {K : PySem.W.Frag} {F : Hp} {a : Addr} {vs : List V} {ds : List PD.D} (h : Rd F a (.lst vs)) (g : RpAll K F vs ds) : ItZ K (Itl K a) F ds := fun i d H x H3 s e ⟨e1, e2⟩ => by
  obtain ⟨v, q1, q2⟩ := RpAll.get g e
  have q3 := e2 vs (.inl (Rd.mono s h))
  rw [q1] at q3; cases q3
  exact ⟨e1, q2⟩
theorem itz_t {K : PySem.W.Frag} {F : Hp} {a : Addr} {vs : List V} {ds : List PD.D} (h : SqT K F a vs) (g : RpAll K F vs ds) : ItZ K (Itt K a) F ds := fun i d H x H3 s e ⟨e1, e2⟩ => by
  obtain ⟨v, q1, q2⟩ := RpAll.get g e
  have q3 := e2 vs (SqT.mono s h)
  rw [q1] at q3; cases q3
  exact ⟨e1, q2⟩
/-- a list or tuple, told of with a flag -/
theorem piF_seq {tg iter : Expr} {m : Md} {p : Ex} (hm : m ≠ .plain) (h : PE X iter (tF X.K B C Z tr m p)) : PI X tg iter (tIF X.K B C Z tr m .seq [p]) := by
  refine PI.or (pi_list h) (pi_tup h) fun σ H R ⟨F, env, fl, r, f, ds, b, env', xs, e, hi, q⟩ => ?_
  have e : (evF C Z tr m p env fl).map (fun q => ([q.1], q.2.1, q.2.2)) = some (ds, b, env') := by
    cases m with
    | plain => exact absurd rfl hm
    | _ => exact e
  obtain ⟨⟨d, b', e1⟩, h1, h2⟩ := Option.map_eq_some_iff.mp e
  cases h2
  have hi : jSeq [d] = some xs := hi
  cases d with
  | list ys =>
    simp only [jSeq] at hi
    split at hi
    · cases hi
      refine .inl ⟨F, env, fl, r, f, _, _, _, h1, fun v F' H' s hd hz => ?_⟩
      cases hd with
      | @lst a us _ v1 v2 =>
        refine ⟨a, rfl, ⟨us, .inl (Rd.mono s.rl.fh v1)⟩, q _ F' H' s (itl_ok v1 v2) fun hb => ?_⟩
        cases hz (by simpa using hb) with
        | @lst a us' _ w1 w2 => exact itz_l w1 w2
    · cases hi
  | tuple ys =>
    simp only [jSeq] at hi
    split at hi
    · cases hi
      refine .inr ⟨F, env, fl, r, f, _, _, _, h1, fun v F' H' s hd hz => ?_⟩
      cases hd with
      | @tup a us _ v1 v2 =>
        refine ⟨a, rfl, ⟨us, SqT.mono s.rl.fh v1⟩, q _ F' H' s (itt_ok v1 v2) fun hb => ?_⟩
        cases hz (by simpa using hb) with
        | @tup a us' _ w1 w2 => exact itz_t w1 w2
    · cases hi
  | _ => simp [jSeq] at hi
theorem piF_plain {tg iter : Expr} {ik : IK} {its : List Ex} (h : PI X tg iter (tI X.K B C ik its)) : PI X tg iter (tIF X.K B C Z tr .plain ik its) := by
  refine PI.imp h fun σ H R ⟨F, env, fl, r, f, ds, b, env', xs, e, hi, q⟩ => ?_
  obtain ⟨⟨ds', e1⟩, h1, h2⟩ := Option.map_eq_some_iff.mp e
  cases h2
  exact ⟨F, env, r, _, _, xs, h1, hi, fun J F' H' s j => q J F' H' s j fun hb => by simp at hb⟩
variable {K : PySem.W.Frag} {F F' H' : Hp} {env env' : En} {fl : Fl}
theorem aft_le {fw : Fw} (a : aft K B tr mono F D fw) (s : Same F F') : aft K B tr mono F' D fw := by
  cases fw with
  | nx e l => exact fun σ' F2 H' R m => a σ' F2 H' R fun h => s.trans (m h)
  | bk e l => exact fun σ' F2 H' R m => a σ' F2 H' R fun h => s.trans (m h)
  | ct e l => exact fun σ' F2 H' R m => a σ' F2 H' R fun h => s.trans (m h)
  | rt d b e => exact a
theorem asg_imp {m : Md} {t : Tg} {p : Ex} (h : tM K B tr (exS C Z W tr (.asg m t p)) mono D σ H) : tAsg (tF K B C Z tr m p) (tGF K B tr t) D σ H := by
  obtain ⟨F, env, fl, fw, R, e, a⟩ := h
  rw [exS] at e
  obtain ⟨⟨d, b, e1⟩, h1, e⟩ := Option.bind_eq_some_iff.mp e
  obtain ⟨e2, h2, h3⟩ := Option.map_eq_some_iff.mp e
  cases h3
  exact ⟨F, env, fl, R.rl, R.fo, d, b, e1, h1, fun v F' H' s hv hb => ⟨F', e1, fl, d, b, e2, R.stp s, hv, hb, h2, fun σ1 R1 => a σ1 F' H' R1 fun _ => s.ff⟩⟩
/-- a, b = x, y -/
def tFL (K : PySem.W.Frag) (B : Bs) (C : Nat → List PD.D → Option (PD.D × List PD.D)) (Z : Nat → List PD.D → Bool) (tr : Bool) (es : List (Md × Ex)) : TA := fun σ H Q => ∃ F env fl, Rl K B F env σ H ∧ FlOk K B F σ fl ∧ ∃ ds env', evFL C Z tr es env fl = some (ds, env') ∧
  ∀ vs F' H', Stp K B σ F env H F' env' H' → Paired (fun v d => Rp K F' v d.1 ∧ (d.2 = true → Rp K (cutF F' B.F0) v d.1)) vs ds → Q vs H'
theorem tFL_nil {Q : List V → Hp → Prop} (h : tFL K B C Z tr [] σ H Q) : tNil σ H Q := by
  obtain ⟨F, env, fl, r, f, ds, env', e, q⟩ := h
  rw [evFL] at e
  cases e
  exact q [] F H (Stp.refl r) .nil
theorem tFL_cons {p : Md × Ex} {ps : List (Md × Ex)} {Q : List V → Hp → Prop} (h : tFL K B C Z tr (p :: ps) σ H Q) : tCons (tF K B C Z tr p.1 p.2) (tFL K B C Z tr ps) σ H Q := by
  obtain ⟨F, env, fl, r, f, ds, env', e, q⟩ := h
  obtain ⟨m, p⟩ := p
  rw [evFL] at e
  obtain ⟨⟨d, b, e1⟩, h1, e⟩ := Option.bind_eq_some_iff.mp e
  obtain ⟨⟨ds', e2⟩, h2, h3⟩ := Option.map_eq_some_iff.mp e
  cases h3
  exact ⟨F, env, fl, r, f, d, b, e1, h1, fun v F1 H1 s1 hv hb => ⟨F1, e1, fl, s1.rl, f.mono s1.ff, ds', _, h2, fun vs F2 H2 s2 k2 => q _ F2 H2 (s1.trans s2) (.cons ⟨Rp.mono s2.ff _ _ hv, fun z => Rp.mono (cutF_mono s2.ff) _ _ (hb z)⟩ k2)⟩⟩
def setS : List Nat → List V → L2.St → L2.St
  | i :: is, v :: vs, σ => setS is vs (σ.set i (some v))
  | _, _, σ => σ
theorem RlF.setVals : ∀ {is : List Nat} {vs : List V} {ds : List (PD.D × Bool)} {env env' : En} {fl : Fl} {σ : L2.St}, RlF K B tr F env fl σ H → Paired (fun v d => Rp K F v d.1 ∧ (d.2 = true → Rp K (cutF F B.F0) v d.1)) vs ds → setVals is ds env = some env' →
    RlF K B tr F env' (parF tr is ds fl) (setS is vs σ) H
  | [], _, [], env, env', fl, σ, R, p, e => by
    cases p
    rw [PD.setVals] at e
    cases e
    exact R
  | [], _, _ :: _, _, _, _, _, _, _, e => by simp [PD.setVals] at e
  | _ :: _, _, [], _, _, _, _, _, _, e => by simp [PD.setVals] at e
  | i :: is, v :: vs, d :: ds, env, env', fl, σ, R, p, e => by
    cases p with
    | cons h t =>
      rw [PD.setVals] at e
      split at e
      · cases e
      · split at e
        · rename_i hl
          have ih := RlF.setVals (R.setV hl h.1 h.2) t e
          exact ih
        · cases e
  | _ :: _, [], _ :: _, _, _, _, _, _, p, _ => by cases p
theorem par_imp {is : List Nat} {es : List (Md × Ex)} (h : tM K B tr (exS C Z W tr (.par is es)) mono D σ H) : tFL K B C Z tr es σ H fun vs H1 => vs.length = is.length ∧ D.nx (setS is vs σ) H1 := by
  obtain ⟨F, env, fl, fw, R, e, a⟩ := h
  rw [exS] at e
  obtain ⟨⟨ds, e1⟩, h1, e⟩ := Option.bind_eq_some_iff.mp e
  obtain ⟨e2, h2, h3⟩ := Option.map_eq_some_iff.mp e
  cases h3
  refine ⟨F, env, fl, R.rl, R.fo, ds, e1, h1, fun vs F' H' s k => ⟨?_, a _ F' H' ((R.stp s).setVals k h2) fun _ => s.ff⟩⟩
  have : ∀ {is : List Nat} {ds : List (PD.D × Bool)} {e1 e2 : En}, setVals is ds e1 = some e2 → ds.length = is.length := by
    intro is
    induction is with
    | nil => intro ds e1 e2 h; cases ds with
      | nil => rfl
      | cons d ds => simp [setVals] at h
    | cons i is ih => intro ds e1 e2 h; cases ds with
      | nil => simp [setVals] at h
      | cons d ds =>
        rw [setVals] at h
        split at h
        · cases h
        · split at h
          · rw [List.length_cons, List.length_cons, ih h]
          · cases h
  rw [Paired.length k, this h2]
theorem op_var {i : Nat} (m : isMut (slot env i) = true) : opd (.var i) (ev C (.var i)) env = some (.inr i, env) := by
  show (if isMut (slot env i) = true then some (Sum.inr i, env) else _) = _
  rw [if_pos m]
/-- a slot's list is written -/
theorem RlF.upMut (R : RlF K B tr F env fl σ H) {i : Nat} {a : Addr} {vs : List V} {gs : List PD.D} (m : isMut (slot env i) = true) (e : svAt σ i = some (.ref a)) (h : RpAll K F vs gs) : RlF K B tr F (env.set i (setG (slot env i) gs)) fl σ (upd H a (.lst vs)) := by
  obtain ⟨us, h1, h2⟩ := (R.rl.sl i).tracked m e
  refine ⟨(R.rl.calledG m e ⟨Same.refl _, fun b o q => ?_, fun b o q f => f, fun b o q n => ?_, fun _ _ _ q => q, fun b q => ?_⟩).rl, R.fo, R.ne⟩
  · rw [upd_ne (fun z => by rw [z, h2] at q; cases q)]; exact R.rl.fh _ _ q
  · rw [upd_ne (fun z => n (by rw [z]))]; exact q
  · cases q
    exact ⟨vs, upd_same, h2, h⟩
theorem setix_imp {i : Nat} {ix p : Ex} (h : tM K B tr (exS C Z W tr (.setix i ix p)) mono D σ H) : tAsg (tE K B C p) (gSub (tO K B C (.var i)) (tE K B C ix) rSetL) D σ H := by
  obtain ⟨F, env, fl, fw, R, e, a⟩ := h
  rw [exS] at e
  obtain ⟨⟨d, e1⟩, h1, e⟩ := Option.bind_eq_some_iff.mp e
  refine ⟨F, env, R.rl, d, e1, h1, fun v F1 H1 s1 hv => ?_⟩
  simp only at e
  split at e
  · rename_i m1
    obtain ⟨⟨kd, e2⟩, h2, e⟩ := Option.bind_eq_some_iff.mp e
    refine ⟨F1, e1, s1.rl, .inr i, e1, op_var m1, fun o F2 H2 s2 ho => ⟨F2, e1, s2.rl, _, e2, h2, fun kv F3 H3 s3 hkv => ?_⟩⟩
    have ho : svAt σ i = some o := ho
    have R3 := ((R.stp s1).stp s2).stp s3
    have hs := s3.rl.sl i
    have run : ∀ (ds : List PD.D) (j : Int) (q : Nat) (b : Addr) (us : List V), isMut (slot e2 i) = true → o = .ref b → H3 b = some (.lst us) → RpAll K F3 us ds → kd = .int j → ixAt ds.length j = some q →
        fw = .nx (e2.set i (setG (slot e2 i) (ds.set q d))) fl → rSetL o kv v H3 fun H4 => D.nx σ H4 := fun ds j q b us m2 ob hb hr hk hq hw => by
      subst hk hw ob
      cases hkv
      have hlen : us.length = ds.length := RpAll.length hr
      exact ⟨b, us, j, q, rfl, rfl, hb, by rw [hlen]; exact hq, a σ F3 _ (R3.upMut m2 ho (RpAll.set (Rp.mono (s2.ff.trans s3.ff) _ _ hv) q hr)) fun _ => s1.ff.trans (s2.ff.trans s3.ff)⟩
    simp only at e
    cases hq : slot e2 i with
    | own ds =>
      rw [hq] at e hs
      obtain ⟨b, us, g1, g2, g3, g4, g5⟩ := hs
      rw [ho] at g1
      cases kd with
      | int j =>
        obtain ⟨q, g6, g7⟩ := Option.map_eq_some_iff.mp e
        exact run ds j q b us (by rw [hq]; rfl) (Option.some.inj g1) g2 g5 rfl g6 (by rw [hq]; exact g7.symm)
      | _ => cases e
    | brw ds =>
      rw [hq] at e hs
      obtain ⟨b, us, g1, g2, g3, g4, g5⟩ := hs
      rw [ho] at g1
      cases kd with
      | int j =>
        obtain ⟨q, g6, g7⟩ := Option.map_eq_some_iff.mp e
        exact run ds j q b us (by rw [hq]; rfl) (Option.some.inj g1) g3 g5 rfl g6 (by rw [hq]; exact g7.symm)
      | _ => cases e
    | no => rw [hq] at e; cases e
    | val d => rw [hq] at e; cases e
  · cases e
theorem app_imp {i : Nat} {p : Ex} (h : tM K B tr (exS C Z W tr (.app i p)) mono D σ H) : tDrop (tBM K "list" rAppend (tO K B C (.var i)) (tCons (tE K B C p) tNil)) D σ H := by
  obtain ⟨F, env, fl, fw, R, e, a⟩ := h
  rw [exS] at e
  split at e
  · rename_i m1
    obtain ⟨⟨d, e1⟩, h1, e⟩ := Option.bind_eq_some_iff.mp e
    refine ⟨F, env, R.rl, .inr i, env, op_var m1, fun o F1 H1 s1 ho => ?_⟩
    have ho : svAt σ i = some o := ho
    have hs1 := s1.rl.sl i
    have ty : tyV K "list" o H1 := by
      cases hq : slot env i with
      | own ds =>
        rw [hq] at hs1
        obtain ⟨b, us, g1, g2, _⟩ := hs1
        rw [ho] at g1
        cases g1
        exact .inl ⟨rfl, us, .inl (.inl g2)⟩
      | brw ds =>
        rw [hq] at hs1
        obtain ⟨b, us, g1, _, g2, _⟩ := hs1
        rw [ho] at g1
        cases g1
        exact .inl ⟨rfl, us, .inl (.inl g2)⟩
      | no => rw [hq] at m1; cases m1
      | val d => rw [hq] at m1; cases m1
    refine ⟨ty, F1, env, s1.rl, d, e1, h1, fun v F2 H2 s2 hv => ?_⟩
    have R2 := (R.stp s1).stp s2
    have hs := s2.rl.sl i
    have run : ∀ (ds : List PD.D) (b : Addr) (us : List V), isMut (slot e1 i) = true → o = .ref b → H2 b = some (.lst us) → RpAll K F2 us ds → sz ds.length = true →
        fw = .nx (e1.set i (setG (slot e1 i) (ds ++ [d]))) fl → rAppend o [v] H2 fun _ H4 => D.nx σ H4 := fun ds b us m2 ob hb hr hz hw => by
      subst hw ob
      have hlen : us.length = ds.length := RpAll.length hr
      exact ⟨b, us, v, rfl, rfl, hb, by rw [hlen]; exact sz_lt hz, a σ F2 _ (R2.upMut m2 ho (RpAll.append hr (.cons hv .nil))) fun _ => s1.ff.trans s2.ff⟩
    simp only at e
    cases hq : slot e1 i with
    | own ds =>
      rw [hq] at e hs
      obtain ⟨b, us, g1, g2, g3, g4, g5⟩ := hs
      rw [ho] at g1
      simp only at e
      split at e
      · rename_i hz
        exact run ds b us (by rw [hq]; rfl) (Option.some.inj g1) g2 g5 hz (by rw [hq]; exact (Option.some.inj e).symm)
      · cases e
    | brw ds =>
      rw [hq] at e hs
      obtain ⟨b, us, g1, g2, g3, g4, g5⟩ := hs
      rw [ho] at g1
      simp only at e
      split at e
      · rename_i hz
        exact run ds b us (by rw [hq]; rfl) (Option.some.inj g1) g3 g5 hz (by rw [hq]; exact (Option.some.inj e).symm)
      · cases e
    | no => rw [hq] at e; cases e
    | val d => rw [hq] at e; cases e
  · cases e
theorem kp_mut {s : Slot} (h : isMut (kpSlot s) = true) : isMut s = true := by
  cases s with
  | val d =>
    have h : isMut (if lf d = true then Slot.val d else .no) = true := h
    split at h <;> cases h
  | own ds => rfl
  | brw ds => rfl
  | no => cases h
theorem reb_mut {i : Nat} (h : isMut (slot (rebE env fl) i) = true) : isMut (slot env i) = true := by
  unfold rebE at h
  rcases setAll_slot false (env.map kpSlot) i fl with q | ⟨p, _, _, _, q⟩
  · rw [q, slot_map _ rfl] at h
    exact kp_mut h
  · rw [q] at h; cases h
/-- what is new is written -/
theorem spoil_imp {p : Ex} {x : Str} (hg : B.g = none) (h : tM K B tr (exS C Z W tr (.spoil p x)) false D σ H) : tDrop (tBM K "list" rAppend (tSp K B C p) (tCons (tC (.str x)) tNil)) D σ H := by
  obtain ⟨F, env, fl, fw, R, e, a⟩ := h
  rw [exS] at e
  split at e
  · obtain ⟨⟨d, e1⟩, h1, e⟩ := Option.bind_eq_some_iff.mp e
    refine ⟨F, env, fl, R.rl, R.fo, d, e1, h1, fun v F1 H1 s1 hv => ?_⟩
    have r := R.rl
    have hh : Same H H1 := fun b o h => s1.fr b o h fun ⟨i, m, _⟩ => by rw [cutE_nomut] at m; cases m
    have fz : ∀ b o, H b = some o → cutF F B.F0 b = none → F1 b = none := fun b o h n => s1.fz b o h n fun ⟨i, m, _⟩ => by rw [cutE_nomut] at m; cases m
    cases d with
    | list ds =>
      simp only at e
      split at e
      · rename_i hz
        cases e
        cases hv with
        | @lst b us _ v1 v2 =>
          have v1 : F1 b = some (.lst us) := by
            rcases v1 with v1 | ⟨o, v1⟩
            · exact v1
            · obtain ⟨q1, q2⟩ := cutF_in (s1.rl.nz _ _ _ v1)
              cases q2 _ (r.nz _ _ _ q1)
          have hb1 := s1.rl.fh _ _ v1
          refine ⟨.inl ⟨rfl, us, .inl (.inl hb1)⟩, b, us, .str x, rfl, rfl, hb1, by rw [RpAll.length v2]; exact sz_lt hz, ?_⟩
          -- the entry's lists are not written
          have nF0 : B.F0 b = none := by
            cases q : B.F0 b with
            | none => rfl
            | some u =>
              cases hl : isL u with
              | true => rw [fz b _ (r.fh _ _ (r.f0 _ _ q)) (cutF_no q hl)] at v1; cases v1
              | false =>
                have : cutF F B.F0 b = some u := cutF_of (r.f0 _ _ q) fun x z => by rw [q] at z; cases z; exact hl
                have q3 := s1.ff _ _ this
                rw [v1] at q3
                cases q3
                cases hl
          have HF : ∀ o, H b = some o → F b ≠ none := fun o h n => by
            have : cutF F B.F0 b = none := by
              cases q : cutF F B.F0 b with
              | none => rfl
              | some u => rw [cutF_le _ _ q] at n; cases n
            rw [fz b o h this] at v1; cases v1
          have nlst : ∀ c u, F c = some u → isL u = false → c ≠ b := fun c u h n z => by
            subst z
            have q3 := hh _ _ (r.fh _ _ h)
            rw [hb1] at q3
            cases q3
            cases n
          let F2 : Hp := fun c => if c = b then none else F c
          have f2 : ∀ {c o}, F2 c = some o → c ≠ b ∧ F c = some o := fun {c o} h => by
            have h : (if c = b then none else F c) = some o := h
            split at h
            · cases h
            · rename_i n; exact ⟨n, h⟩
          have f2' : ∀ {c o}, c ≠ b → F c = some o → F2 c = some o := fun {c o} n h => by
            show (if c = b then none else F c) = some o
            rw [if_neg n]; exact h
          have f2n : ∀ {c}, F c = none → F2 c = none := fun {c} h => by
            show (if c = b then none else F c) = none
            split
            · rfl
            · exact h
          have f0' : Same B.F0 F2 := fun c o h => f2' (fun z => by rw [z, nF0] at h; cases h) (r.f0 _ _ h)
          have lfk : ∀ {d : PD.D} {v : V}, lf d = true → Rp K F v d → Rp K F2 v d := fun {d v} l h => Rp.lfree (fun c u e n => f2' (nlst c u e n) e) d v l h
          have lfsk : ∀ {ds : List PD.D} {vs : List V}, lfs ds = true → RpAll K F vs ds → RpAll K F2 vs ds := fun {ds vs} l h => RpAll.lfree (fun c u e n => f2' (nlst c u e n) e) ds vs l h
          have up : ∀ {c o}, c ≠ b → H c = some o → upd H1 b (.lst (us ++ [.str x])) c = some o := fun {c o} n h => by rw [upd_ne n]; exact hh _ _ h
          refine a σ F2 _ ⟨⟨fun c o h => ?_, f0', fun c o h n => f2n (r.fresh c o h n), fun c o h n => ?_, (fun c h => by rw [hg] at h; cases h), fun i => ?_, fun i j c m1 m2 e1 e2 => r.sep i j c (reb_mut m1) (reb_mut m2) e1 e2, ?_, ?_⟩, fun p hp => ?_, fun z => by rw [R.ne z]; rfl⟩ fun z => by cases z
          · obtain ⟨n, h⟩ := f2 h
            exact up n (r.fh _ _ h)
          · have hc := r.keep c o h n
            refine up (fun z => ?_) hc
            subst z
            exact HF o hc (r.fresh c o h nF0)
          · have base : slot (rebE env fl) i = kpSlot (slot env i) → SlOk K B F2 (upd H1 b (.lst (us ++ [.str x]))) (svAt σ i) (slot (rebE env fl) i) := fun q => by
              rw [q]
              have hs := r.sl i
              cases hq : slot env i with
              | no => trivial
              | val d =>
                rw [hq] at hs
                obtain ⟨w, e, h⟩ := hs
                show SlOk _ _ _ _ _ (if lf d = true then Slot.val d else .no)
                split
                · rename_i l; exact ⟨w, e, lfk l h⟩
                · trivial
              | own ds =>
                rw [hq] at hs
                obtain ⟨c, ws, e, g1, g2, g3, g4⟩ := hs
                show SlOk _ _ _ _ _ (if lfs ds = true then Slot.own ds else .no)
                split
                · rename_i l
                  have nc : c ≠ b := fun z => HF _ (by rw [← z]; exact g1) (by rw [← z]; exact g2)
                  exact ⟨c, ws, e, up nc g1, f2n g2, g3, lfsk l g4⟩
                · trivial
              | brw ds =>
                rw [hq] at hs
                obtain ⟨c, ws, e, g0, g1, g2, g4⟩ := hs
                show SlOk _ _ _ _ _ (if lfs ds = true then Slot.brw ds else .no)
                split
                · rename_i l
                  have nc : c ≠ b := fun z => HF _ (by rw [← z]; exact g1) (by rw [← z]; exact g2)
                  exact ⟨c, ws, e, g0, up nc g1, f2n g2, lfsk l g4⟩
                · trivial
            rcases setAll_slot false (env.map kpSlot) i fl with q | ⟨p, h1, h2, h3, q⟩
            · exact base (by unfold rebE; rw [q, slot_map _ rfl])
            · have q : slot (rebE env fl) i = .val p.2.2 := q
              rw [q]
              obtain ⟨v, e, h⟩ := R.fo p h1
              rw [if_neg (by rw [h2]; decide)] at h
              rw [h3] at e
              exact ⟨v, e, Rp.mono f0' _ _ h⟩
          · unfold rebE
            rw [setAll_len, List.length_map]
            exact r.len
          · exact fun c o u h => r.nz c o u (f2 h).2
          · unfold oldF at hp
            rw [List.mem_filter] at hp
            obtain ⟨hp, hf⟩ := hp
            obtain ⟨v, e, h⟩ := R.fo p hp
            have hf : p.1 = false := by simpa using hf
            rw [if_neg (by rw [hf]; decide)] at h
            exact ⟨v, e, by rw [if_neg (by rw [hf]; decide)]; exact h⟩
      · cases e
    | _ => cases e
  · cases e
end
end PD

/-! PD24: blocks, loops. -/
namespace PD
open PySem PySem.Spec PyProof.Rows L2
section
variable {C : Nat → List D → Option (D × List D)} {Z : Nat → List D → Bool} {W : Nat} {B : Bs} {tr mono : Bool} {D : Ends} {σ : L2.St} {K : PySem.W.Frag} {F F' H H' : Hp} {env env' : En} {fl : Fl}
theorem ex_imp {p : Ex} (h : tM K B tr (exS C Z W tr (.ex p)) mono D σ H) : tDrop (tE K B C p) D σ H := by
  obtain ⟨F, env, fl, fw, R, e, a⟩ := h
  rw [exS] at e
  obtain ⟨⟨d, e1⟩, h1, h2⟩ := Option.map_eq_some_iff.mp e
  cases h2
  exact ⟨F, env, R.rl, d, e1, h1, fun v F' H' s hv => a σ F' H' (R.stp s) fun _ => s.ff⟩
theorem ret_imp {m : Md} {p : Ex} (h : tM K B tr (exS C Z W tr (.ret m p)) mono D σ H) : tRet (tF K B C Z tr m p) D σ H := by
  obtain ⟨F, env, fl, fw, R, e, a⟩ := h
  rw [exS] at e
  obtain ⟨⟨d, b, e1⟩, h1, h2⟩ := Option.map_eq_some_iff.mp e
  cases h2
  exact ⟨F, env, fl, R.rl, R.fo, d, b, e1, h1, fun v F' H' s hv hb => a v σ F' H' s.rl hv hb⟩
theorem retN_imp (h : tM K B tr (exS C Z W tr .retN) mono D σ H) : tRetN D σ H := by
  obtain ⟨F, env, fl, fw, R, e, a⟩ := h
  rw [exS] at e
  cases e
  exact a .non σ F H R.rl .non fun _ => .non
theorem pass_imp (h : tM K B tr (exS C Z W tr .pass) mono D σ H) : tNext D σ H := by
  obtain ⟨F, env, fl, fw, R, e, a⟩ := h
  rw [exS] at e
  cases e
  exact a σ F H R fun _ => Same.refl _
theorem brk_imp (h : tM K B tr (exS C Z W tr .brk) mono D σ H) : tBreak D σ H := by
  obtain ⟨F, env, fl, fw, R, e, a⟩ := h
  rw [exS] at e
  cases e
  exact a σ F H R fun _ => Same.refl _
theorem cont_imp (h : tM K B tr (exS C Z W tr .cont) mono D σ H) : tCont D σ H := by
  obtain ⟨F, env, fl, fw, R, e, a⟩ := h
  rw [exS] at e
  cases e
  exact a σ F H R fun _ => Same.refl _
theorem bad_imp (h : tM K B tr (exS C Z W tr .bad) mono D σ H) : tNever D σ H := by
  obtain ⟨F, env, fl, fw, R, e, a⟩ := h
  rw [exS] at e
  cases e
theorem nil_imp (h : tM K B tr (exB C Z W tr []) mono D σ H) : tNext D σ H := by
  obtain ⟨F, env, fl, fw, R, e, a⟩ := h
  rw [exB] at e
  cases e
  exact a σ F H R fun _ => Same.refl _
theorem cons_imp {s : Sm} {r : List Sm} {m1 m2 : Bool} (hm : mono = true → m1 = true ∧ m2 = true) (h : tM K B tr (exB C Z W tr (s :: r)) mono D σ H) : tSeq (tM K B tr (exS C Z W tr s) m1) (tM K B tr (exB C Z W tr r) m2) D σ H := by
  obtain ⟨F, env, fl, fw, R, e, a⟩ := h
  rw [exB] at e
  obtain ⟨w, h1, e⟩ := Option.bind_eq_some_iff.mp e
  refine ⟨F, env, fl, w, R, h1, ?_⟩
  cases w with
  | nx e1 l =>
    refine fun σ' F' H' R' s' => ⟨F', e1, l, fw, R', e, ?_⟩
    cases fw with
    | nx e2 l2 => exact fun σ2 F2 H2 R2 s2 => a σ2 F2 H2 R2 fun h => (s' (hm h).1).trans (s2 (hm h).2)
    | bk e2 l2 => exact fun σ2 F2 H2 R2 s2 => a σ2 F2 H2 R2 fun h => (s' (hm h).1).trans (s2 (hm h).2)
    | ct e2 l2 => exact fun σ2 F2 H2 R2 s2 => a σ2 F2 H2 R2 fun h => (s' (hm h).1).trans (s2 (hm h).2)
    | rt d b e => exact a
  | bk e1 l => cases e; exact fun σ2 F2 H2 R2 s2 => a σ2 F2 H2 R2 fun h => s2 (hm h).1
  | ct e1 l => cases e; exact fun σ2 F2 H2 R2 s2 => a σ2 F2 H2 R2 fun h => s2 (hm h).1
  | rt d b e1 => cases e; exact a
theorem ite_impS {c : Ex} {p q : List Sm} {m1 m2 : Bool} (hm : mono = true → m1 = true ∧ m2 = true) (h : tM K B tr (exS C Z W tr (.ite c p q)) mono D σ H) : tIfS (tT K B C c) (tM K B tr (exB C Z W tr p) m1) (tM K B tr (exB C Z W tr q) m2) D σ H := by
  obtain ⟨F, env, fl, fw, R, e, a⟩ := h
  rw [exS] at e
  obtain ⟨⟨b, e1⟩, h1, e⟩ := Option.bind_eq_some_iff.mp e
  unfold evC at h1
  obtain ⟨⟨d, e2⟩, h2, h1⟩ := Option.bind_eq_some_iff.mp h1
  obtain ⟨t, h3, h4⟩ := Option.map_eq_some_iff.mp h1
  cases h4
  have h3 := isTrueD_in h3
  simp only at h3 e
  subst h3
  refine ⟨F, env, R.rl, b, e2, h2, fun F1 H1 s1 => ?_⟩
  have w : ∀ {m : Bool}, (mono = true → m = true) → aft K B tr m F1 D fw := fun {m} hm => by
    cases fw with
    | nx e2 l2 => exact fun σ2 F2 H2 R2 s2 => a σ2 F2 H2 R2 fun h => s1.ff.trans (s2 (hm h))
    | bk e2 l2 => exact fun σ2 F2 H2 R2 s2 => a σ2 F2 H2 R2 fun h => s1.ff.trans (s2 (hm h))
    | ct e2 l2 => exact fun σ2 F2 H2 R2 s2 => a σ2 F2 H2 R2 fun h => s1.ff.trans (s2 (hm h))
    | rt d b e => exact a
  cases b with
  | true =>
    rw [if_pos rfl] at e
    exact L2.iteT ⟨F1, e2, fl, fw, R.stp s1, e, w fun h => (hm h).1⟩
  | false =>
    rw [if_neg (by decide)] at e
    exact L2.iteF ⟨F1, e2, fl, fw, R.stp s1, e, w fun h => (hm h).2⟩
/-- a turn's end, for a loop -/
theorem turn_end {mono : Bool} {F0' : Hp} {Nx : L2.St → Hp → Prop} {fw fw' : Fw} {k : En → Fl → Option Fw} (s0 : Same F F') (a : aft K B tr mono F D fw)
    (e : (match fw' with
      | .nx e l => k e l
      | .ct e l => k e l
      | .bk e l => some (.nx e l)
      | .rt d b e => some (.rt d b e)) = some fw) (hN : ∀ e l σ' F2 H2, k e l = some fw → RlF K B tr F2 e l σ' H2 → Same F' F2 → Nx σ' H2) : aft K B tr true F' { D with nx := Nx, ct := Nx, bk := D.nx } fw' := by
  cases fw' with
  | nx e1 l => exact fun σ' F2 H2 R2 s2 => hN e1 l σ' F2 H2 e R2 (s2 rfl)
  | ct e1 l => exact fun σ' F2 H2 R2 s2 => hN e1 l σ' F2 H2 e R2 (s2 rfl)
  | bk e1 l => cases e; exact fun σ' F2 H2 R2 s2 => a σ' F2 H2 R2 fun _ => s0.trans (s2 rfl)
  | rt d b e1 => cases e; exact a
theorem while_imp {c : Ex} {body : List Sm} {m1 : Bool} (hm : m1 = true) (h : tM K B tr (exS C Z W tr (.while c body)) mono D σ H) : tWhile (tT K B C c) (tM K B tr (exB C Z W tr body) m1) D σ H := by
  subst hm
  obtain ⟨F, env, fl, fw, R, e, a⟩ := h
  rw [exS] at e
  refine ⟨fun n σ H => ∃ F1 env1 fl1, RlF K B tr F1 env1 fl1 σ H ∧ Same F F1 ∧ whileL (evC C c) (fun e l => exB C Z W tr body e l) n env1 fl1 = some fw, ⟨W, F, env, fl, R, Same.refl _, e⟩, fun n σ H ⟨F1, env1, fl1, R1, s1, e1⟩ => ?_⟩
  cases n with
  | zero => rw [whileL] at e1; cases e1
  | succ n =>
    rw [whileL] at e1
    obtain ⟨⟨b, e2⟩, h1, e3⟩ := Option.bind_eq_some_iff.mp e1
    unfold evC at h1
    obtain ⟨⟨d, e4⟩, h2, h1⟩ := Option.bind_eq_some_iff.mp h1
    obtain ⟨t, h3, h4⟩ := Option.map_eq_some_iff.mp h1
    cases h4
    have h3 := isTrueD_in h3
    simp only at h3 e3
    subst h3
    refine ⟨F1, env1, R1.rl, b, e4, h2, fun F2 H2 s2 => ?_⟩
    have a2 := aft_le a (s1.trans s2.ff)
    cases b with
    | true =>
      rw [if_pos rfl] at e3
      obtain ⟨w, h5, e5⟩ := Option.bind_eq_some_iff.mp e3
      refine L2.iteT ⟨fun σ' H' => ∃ F3 env3 fl3, RlF K B tr F3 env3 fl3 σ' H' ∧ Same F F3 ∧ whileL (evC C c) (fun e l => exB C Z W tr body e l) n env3 fl3 = some fw, fun σ' H' hw => ⟨n, Nat.lt_succ_self n, hw⟩, F2, e4, fl1, w, R1.stp s2, h5, ?_⟩
      exact turn_end (F0' := F) (Same.refl F2) a2 e5 fun e l σ' F3 H3 hk R3 s3 => ⟨F3, e, l, R3, (s1.trans s2.ff).trans s3, hk⟩
    | false =>
      rw [if_neg (by decide)] at e3
      cases e3
      exact L2.iteF (a2 σ F2 H2 (R1.stp s2) fun _ => Same.refl _)
theorem for_imp {m : Md} {tg : Tg} {ik : IK} {its : List Ex} {body : List Sm} {m1 : Bool} (hm : m1 = true) (h : tM K B tr (exS C Z W tr (.for m tg ik its body)) mono D σ H) :
    tFor (tIF K B C Z tr m ik its) (tGF K B tr tg) (tM K B tr (exB C Z W tr body) m1) D σ H := by
  subst hm
  obtain ⟨F, env, fl, fw, R, e, a⟩ := h
  rw [exS] at e
  obtain ⟨⟨ds, b, e1⟩, h1, e⟩ := Option.bind_eq_some_iff.mp e
  obtain ⟨xs, h2, e⟩ := Option.bind_eq_some_iff.mp e
  simp only at h2 e
  refine ⟨F, env, fl, R.rl, R.fo, ds, b, e1, xs, h1, h2, fun J F1 H1 s1 jo jz => ?_⟩
  have a1 := aft_le a s1.ff
  let f : PD.D → En → Fl → Option Fw := fun x e l => (asg tg x e).bind fun e1 => exB C Z W tr body e1 (updF tr (b && decide (ik = .seq)) tg x l)
  refine ⟨fun i n σ' H' => n = xs.length - i ∧ i ≤ xs.length ∧ ∃ F2 env2 fl2, RlF K B tr F2 env2 fl2 σ' H' ∧ Same F1 F2 ∧ forL f (xs.drop i) env2 fl2 = some fw, ⟨xs.length, by simp, Nat.zero_le _, F1, e1, fl, R.stp s1, Same.refl _, by rw [List.drop_zero]; exact e⟩, fun i n σ' H' ⟨en, hi, F2, env2, fl2, R2, s2, e2⟩ => ?_⟩
  subst en
  by_cases hlt : i < xs.length
  · rw [List.drop_eq_getElem_cons hlt, forL] at e2
    obtain ⟨w, h3, e3⟩ := Option.bind_eq_some_iff.mp e2
    obtain ⟨e4, h4, h5⟩ := Option.bind_eq_some_iff.mp h3
    refine .inr ⟨jo.go i H' (s2.trans R2.rl.fh) hlt, fun σ3 H3 => ∃ F3 env3 fl3, RlF K B tr F3 env3 fl3 σ3 H3 ∧ Same F1 F3 ∧ forL f (xs.drop (i + 1)) env3 fl3 = some fw, fun σ3 H3 hw => ⟨xs.length - (i + 1), by omega, rfl, hlt, hw⟩, fun x H3 hy => ?_⟩
    obtain ⟨F3, s3, hx⟩ := jo.yld i xs[i] H' x H3 (s2.trans R2.rl.fh) (List.getElem?_eq_getElem hlt) hy B σ' F2 env2 s2 R2.rl
    refine ⟨F3, env2, fl2, xs[i], b && decide (ik = .seq), e4, R2.stp s3, hx, fun hb => ?_, h4, fun σ4 R4 => ⟨F3, e4, _, w, R4, h5, ?_⟩⟩
    · obtain ⟨_, hz⟩ := jz hb i xs[i] H' x H3 ((cutF_le.trans s2).trans R2.rl.fh) (List.getElem?_eq_getElem hlt) hy
      exact Rp.mono (cutF_mono (s2.trans s3.ff)) _ _ hz
    · exact turn_end (F0' := F) (Same.refl F3) (aft_le a1 (s2.trans s3.ff)) e3 fun e l σ5 F5 H5 hk R5 s5 => ⟨F5, e, l, R5, (s2.trans s3.ff).trans s5, hk⟩
  · have ei : i = xs.length := by omega
    subst ei
    rw [List.drop_length, forL] at e2
    cases e2
    exact .inl ⟨jo.stop _ H' (s2.trans R2.rl.fh) (Nat.le_refl _), a1 σ' F2 H' R2 fun _ => s2⟩
end
end PD

/-! PD25: from Python's statements to the small language. -/
namespace PD
open PySem PySem.Spec PyProof.Rows L2

def isComp : Expr → Bool
  | .ListComp _ _ _ _ => true
  | .SetComp _ _ _ _ => true
  | .DictComp _ _ _ _ _ => true
  | _ => false
def isTup : Expr → Bool
  | .Tuple _ _ _ => true
  | _ => false
/-- as swapsWith tells it at a name -/
def swB (sc : Scope) (x : Str) (px : Pos) (names : List (Str × NameKind)) (vpos : Pos) : Bool :=
  decide (sc.names.lookup x = some .local) && (px.line == vpos.line) && !(names.any fun (n, k) => n == x && (k == .local || k == .cell))
def isLocalOn (sc : Scope) (line : Nat) : Expr → Option Str
  | .Name id pos => if sc.names.lookup id == some .local && pos.line == line then some id else none
  | _ => none
/-- as swappedStores tells it of two tuples -/
def swS (sc : Scope) (ts vs : List Expr) : Option (Option (List Str)) :=
  if !(ts.length == 2 || ts.length == 3) || vs.length != ts.length then some none
  else if vs.any fun | .Starred .. => true | _ => false then some none
  else if (ts.filterMap (isLocalOn sc ((ts.head?.map (·.pos.line)).getD 0))).length != ts.length || (ts.filterMap (isLocalOn sc ((ts.head?.map (·.pos.line)).getD 0))).eraseDups.length != (ts.filterMap (isLocalOn sc ((ts.head?.map (·.pos.line)).getD 0))).length then some none
  else if vs.all (foldedForSure 8) then some none
  else if vs.all (constantsAlone 8) then none
  else some (some (ts.filterMap (isLocalOn sc ((ts.head?.map (·.pos.line)).getD 0))))
theorem sw_aux {sc : Scope} {ts vs : List Expr} {r : Option (List Str)} {f : Expr → Option Str} {g : Expr → Bool} {t : Sem (Option (List Str))} (hf : f = isLocalOn sc ((ts.head?.map (·.pos.line)).getD 0)) (hg : g = fun | .Starred .. => true | _ => false) (h : swS sc ts vs = some r) :
    (if (!(ts.length == 2 || ts.length == 3) || vs.length != ts.length) = true then (pure none : Sem (Option (List Str)))
      else if vs.any g = true then pure none
      else if ((ts.filterMap f).length != ts.length || (ts.filterMap f).eraseDups.length != (ts.filterMap f).length) = true then pure none
      else if vs.all (foldedForSure 8) = true then pure none
      else if vs.all (constantsAlone 8) = true then t
      else pure (some (ts.filterMap f))) = pure r := by
  subst hf hg
  unfold swS at h
  split at h
  · rename_i c; rw [if_pos c]; cases h; rfl
  · rename_i c
    rw [if_neg c]
    split at h
    · rename_i c2; rw [if_pos c2]; cases h; rfl
    · rename_i c2
      rw [if_neg c2]
      split at h
      · rename_i c3; rw [if_pos c3]; cases h; rfl
      · rename_i c3
        rw [if_neg c3]
        split at h
        · rename_i c4; rw [if_pos c4]; cases h; rfl
        · rename_i c4
          rw [if_neg c4]
          split at h
          · cases h
          · rename_i c5
            rw [if_neg c5]
            cases h; rfl
theorem sw_stores {env : Env} {sc : Scope} {ts vs : List Expr} {k k2 : Nat} {p p2 : Pos} {r : Option (List Str)} (hs : env.scope = sc) (hk : sc.kind = .function) (h : swS sc ts vs = some r) : swappedStores [.Tuple ts k p] (.Tuple vs k2 p2) env = pure r := by
  have hb : (env.blockKind != .function) = false := by
    unfold Env.blockKind
    rw [hs, hk]; rfl
  unfold swappedStores
  simp only [hb, Bool.or_false]
  refine sw_aux (sc := sc) ?_ ?_ h
  · funext e
    unfold Env.kindOf
    rw [hs]
    cases e <;> rfl
  · funext e
    cases e <;> rfl
theorem sw_false {value : Expr} {t : Option Expr} {l : Nat} {env : Env} (h : isComp value = false) : swapsWith value t l env = pure false := by
  cases value <;> first | rfl | cases h
theorem sw_comp {elt : Expr} {gs : List Comprehension} {scope : Scope} {vpos px : Pos} {x : Str} {l : Nat} {env : Env} {sc : Scope} (hs : env.scope = sc) (hk : sc.kind = .function) :
    swapsWith (.ListComp elt gs scope vpos) (some (.Name x px)) l env = pure (swB sc x px scope.names vpos) := by
  have hb : env.blockKind = .function := by unfold Env.blockKind; rw [hs, hk]; rfl
  unfold swapsWith swB
  simp only [hb, Env.kindOf, hs]
  cases e : sc.names.lookup x with
  | none => rfl
  | some q => cases q <;> rfl
theorem st_none {t value : Expr} {env : Env} (h : isTup value = false) : swappedStores [t] value env = pure none := by
  cases t <;> cases value <;> first | rfl | cases h
theorem st_none2 {t value : Expr} {env : Env} (h : isTup t = false) (h2 : ∀ es p, t ≠ .List es p) : swappedStores [t] value env = pure none := by
  cases t <;> first | rfl | exact absurd rfl (h2 _ _) | cases h

section
variable (Γ : Gm) (N : List Str) (mu : List Str) (cut : List Nat)
def modeOf (sc : Scope) (pos : Pos) (e : Expr) : Md := if cut.contains pos.line then .cut else if isCallE Γ sc e then .call else .plain
def mdE (n : Nat) (sc : Scope) : List Expr → Option (List (Md × Ex))
  | [] => some []
  | e :: r => (cE Γ N (n + 1) sc e).bind fun p => (mdE n sc r).map fun q => (if isCallE Γ sc e then .call else .plain, p) :: q
mutual
def cS : Nat → Scope → Stmt → Option Sm
  | 0, _, _ => none
  | n + 1, sc, st => match st with
    | .Assign [t] e pos => match t with
      | .Name x px =>
        if mu.contains x then
          if locB sc x && !oddName x then (ixOf x N).bind fun i => match e with
            | .List es _ => if decide (es.length ≤ 1000) then (cL Γ N n sc es).map fun ps => .own i ps else none
            | _ => if isCallE Γ sc e then (cE Γ N (n + 1) sc e).map fun p => .ownc i p else none
          else none
        else match e with
          | .ListComp elt gs scope vpos => if locB sc x && !oddName x then (ixOf x N).bind fun i => (cE Γ N (n + 1) sc e).map fun p => .asg .plain (.nm i) p else none
          | _ => if isComp e then none else (cTg N sc (n + 1) t).bind fun tg => (cE Γ N (n + 1) sc e).map fun p => .asg (modeOf Γ cut sc pos e) tg p
      | .Tuple ts k tp => (match e with
          | .Tuple vs k2 p2 => (match swS sc ts vs with
              | none => none
              | some none => (cTg N sc (n + 1) t).bind fun tg => (cE Γ N (n + 1) sc e).map fun p => .asg .plain tg p
              | some (some _) => (match ts, vs with
                  | [.Name x px, .Name y py], [a, b] => (ixOf x N).bind fun i => (ixOf y N).bind fun j => if decide (sc.names.lookup x = some .local) && decide (sc.names.lookup y = some .local) && decide (i ≠ j) && decide (swS sc ts vs = some (some [x, y])) && notStar a && notStar b then (mdE Γ N n sc vs).map fun q => .par [i, j] q else none
                  | [.Name x px, .Name y py, .Name z pz], [a, b, c] => (ixOf x N).bind fun i => (ixOf y N).bind fun j => (ixOf z N).bind fun l =>
                      if decide (sc.names.lookup x = some .local) && decide (sc.names.lookup y = some .local) && decide (sc.names.lookup z = some .local) && decide (i ≠ j) && decide (i ≠ l) && decide (j ≠ l) && decide (swS sc ts vs = some (some [x, y, z])) && notStar a && notStar b && notStar c then (mdE Γ N n sc vs).map fun q => .par [i, j, l] q else none
                  | _, _ => none))
          | _ => if isComp e then none else (cTg N sc (n + 1) t).bind fun tg => (cE Γ N (n + 1) sc e).map fun p => .asg (modeOf Γ cut sc pos e) tg p)
      | .Subscript (.Name x px) ix sp => if notSlice ix && !isComp e && visB sc x && !oddName x then (ixOf x N).bind fun i => (cE Γ N (n + 1) sc ix).bind fun pi => (cE Γ N (n + 1) sc e).map fun p => .setix i pi p else none
      | _ => none
    | .Expr e pos => match e with
      | .Constant (.str _) _ _ => some .pass
      | .Call (.Attribute o m apos) [a] [] cpos => if decide (m = "append") && (apos.endLine == cpos.line) && notStar a && notCall o then (match o with
          | .Name x px => if visB sc x && !oddName x && mu.contains x then (ixOf x N).bind fun i => (cE Γ N (n + 1) sc a).map fun p => .app i p else (match a with
              | .Constant (.str s) _ _ => (cE Γ N (n + 1) sc o).map fun p => .spoil p s
              | _ => none)
          | _ => (match a with
              | .Constant (.str s) _ _ => (cE Γ N (n + 1) sc o).map fun p => .spoil p s
              | _ => none)) else none
      | _ => if isComp e then none else (cE Γ N (n + 1) sc e).map .ex
    | .Return (some e) pos => (cE Γ N (n + 1) sc e).map fun p => .ret (modeOf Γ cut sc pos e) p
    | .Return none _ => some .retN
    | .If c a b _ => if tstB (n + 1) c then (cE Γ N (n + 1) sc c).bind fun pc => some (.ite pc (cB n sc a) (cB n sc b)) else none
    | .For tg iter body [] pos => if notSet iter && noSpB (cB n sc body) then (cTg N sc (n + 1) tg).bind fun t =>
        (if decide ((cIK Γ sc tg iter).1 = .seq) && (cut.contains pos.line || isCallE Γ sc iter) then
          (cE Γ N (n + 1) sc iter).map fun p => .for (modeOf Γ cut sc pos iter) t .seq [p] (cB n sc body)
        else (cL Γ N (n + 2) sc (cIK Γ sc tg iter).2).map fun its => .for .plain t (cIK Γ sc tg iter).1 its (cB n sc body)) else none
    | .While c body [] _ => if tstB (n + 1) c && noSpB (cB n sc body) then (cE Γ N (n + 1) sc c).map fun pc => .while pc (cB n sc body) else none
    | .Pass _ => some .pass
    | .Break _ => some .brk
    | .Continue _ => some .cont
    | _ => none
def cB : Nat → Scope → List Stmt → List Sm
  | 0, _, l => l.map fun _ => .bad
  | _ + 1, _, [] => []
  | n + 1, sc, s :: r => (match cS n sc s with
    | some m => m
    | none => .bad) :: cB n sc r
end
end
end PD

/-! PD26: every statement that compiles does what it says. -/
namespace PD
open PySem PySem.Spec PyProof.Rows L2
theorem cIK_seq {Γ : Gm} {sc : Scope} {tg iter : Expr} (h : (cIK Γ sc tg iter).1 = .seq) : cIK Γ sc tg iter = (.seq, [iter]) := by
  by_cases w1 : ∃ f p a pos, iter = .Call (.Name f p) [a] [] pos
  · obtain ⟨f, p, a, pos, rfl⟩ := w1
    simp only [cIK] at h ⊢
    split at h
    · cases h
    · rename_i c
      rw [if_neg c]
      split at h
      · cases h
      · rename_i c2
        rw [if_neg c2]
  by_cases w2 : ∃ f p a b pos, iter = .Call (.Name f p) [a, b] [] pos
  · obtain ⟨f, p, a, b, pos, rfl⟩ := w2
    simp only [cIK] at h ⊢
    split at h
    · cases h
    · rename_i c
      rw [if_neg c]
      split at h
      · cases h
      · rename_i c2
        rw [if_neg c2]
  unfold cIK
  split
  · exact absurd ⟨_, _, _, _, rfl⟩ w1
  · exact absurd ⟨_, _, _, _, _, rfl⟩ w2
  · rfl
theorem few_ok {X : Cx} {a : Expr} {cpos : Pos} (h : notStar a = true) : ((backTo cpos (starEach [a] X.env)).all (fun x => !x.1) && (backToKw cpos (keywordEach [] X.env)).all (fun x => x.1.isSome)
      && decide (([a] : List Expr).length + ([] : List Keyword).length + (if ([] : List Keyword).isEmpty then 0 else 1) < 30)) = true := by
  rw [star_cons h]; rfl
theorem sub_asg {X : Cx} {o i : Expr} {pos : Pos} (h : notSlice i = true) : ∀ v, assign (.Subscript o i pos) X.env v = (do
      let ov ← holding [v] (eval o X.env)
      let iv ← holding [v, ov] (eval i X.env)
      standAt pos
      holding [v, ov, iv] (setItem ov iv v)
      release [v, ov, iv] []) := by
  intro v
  cases i <;> first | rfl | cases h
structure Sz (X : Cx) (N : List Str) (Γ : Gm) (C : Nat → List D → Option (D × List D)) (Z : Nat → List D → Bool) (k : Nat) (sc : Scope) (B : Bs) (tr : Bool) : Prop where
  sy : Sy X N Γ C Z k sc
  sto : Sto X sc
  hp : PassesOwn (model X.prog X.w) X.A X.env X.xe
  kind : sc.kind = .function
  hg : tr = true → B.g = none
section
variable {N : List Str} {Γ : Gm} {C : Nat → List D → Option (D × List D)} {Z : Nat → List D → Bool} {W : Nat} {k : Nat} {B : Bs} {X : Cx} {sc : Scope} {n : Nat} {tr : Bool} {mu : List Str} {cut : List Nat}
theorem md_ok {pos : Pos} {e : Expr} : mdOk Γ sc (modeOf Γ cut sc pos e) e = true := by
  unfold modeOf
  split
  · rfl
  · split
    · assumption
    · rfl
/-- target = value, no comprehension about -/
theorem asg_ok (S : Sz X N Γ C Z k sc B tr) {t e : Expr} {tg : Tg} {p : Ex} {m : Md} {mono : Bool} {pos : Pos} (hc : isComp e = false) (hm : mdOk Γ sc m e = true) (hw : swappedStores [t] e X.env = pure none) (h1 : cTg N sc (n + 1) t = some tg) (h2 : cE Γ N (n + 1) sc e = some p) :
    PS X (.Assign [t] e pos) (tM X.K B tr (exS C Z W tr (.asg m tg p)) mono) := by
  refine PS.imp (ps_asg (tF_ok S.sy h2 hm) (tGF_ok S.sy.sx S.sto h1) (sw_false hc) hw ?_) fun D σ H h => asg_imp h
  rcases cTg_plain h1 with ⟨x, p, rfl⟩ | ⟨es, k, p, rfl⟩ <;> rfl
theorem mdE_ok (S : Sz X N Γ C Z k sc B tr) : ∀ {es : List Expr} {q : List (Md × Ex)}, mdE Γ N n sc es = some q → es.all notStar = true → PA X es (tFL X.K B C Z tr q) ∧ q.length = es.length
  | [], q, h, _ => by
    rw [mdE] at h
    cases h
    exact ⟨PA.imp pa_nil fun _ _ _ h => tFL_nil h, rfl⟩
  | e :: r, q, h, hs => by
    rw [mdE] at h
    obtain ⟨p, h1, h⟩ := Option.bind_eq_some_iff.mp h
    obtain ⟨q', h2, rfl⟩ := Option.map_eq_some_iff.mp h
    rw [List.all_cons, Bool.and_eq_true] at hs
    obtain ⟨g1, g2⟩ := mdE_ok S h2 hs.2
    have hm : mdOk Γ sc (if isCallE Γ sc e = true then Md.call else .plain) e = true := by
      split
      · assumption
      · rfl
    exact ⟨PA.imp (pa_cons (tF_ok S.sy h1 hm) g1 (star_cons hs.1)) fun _ _ _ h => tFL_cons h, by rw [List.length_cons, List.length_cons, g2]⟩
theorem loc_N (S : Sz X N Γ C Z k sc B tr) {x : Str} (h : locB sc x = true) : Loc X.env.scope x ∧ (X.fn x = true ∨ X.env.scope.names.lookup x = some .local) := S.sto x h
/-- name = [..], a comprehension -/
theorem comp_asg (S : Sz X N Γ C Z k sc B tr) {x : Str} {px pos vpos : Pos} {elt : Expr} {gs : List Comprehension} {scope : Scope} {i : Nat} {p : Ex} {mono : Bool} (hl : locB sc x = true) (hi : ixOf x N = some i) (h : cE Γ N (n + 1) sc (.ListComp elt gs scope vpos) = some p) :
    PS X (.Assign [.Name x px] (.ListComp elt gs scope vpos) pos) (tM X.K B tr (exS C Z W tr (.asg .plain (.nm i) p)) mono) := by
  have hsw := sw_comp (elt := elt) (gs := gs) (scope := scope) (vpos := vpos) (px := px) (x := x) (l := pos.line) S.sy.sx.hsc S.kind
  obtain ⟨l1, l2⟩ := loc_N S hl
  have hx : X.N[i]? = some x := by rw [S.sy.sx.hN]; exact ixOf_get hi
  have nd : X.N.Nodup := by rw [S.sy.sx.hN]; exact S.sy.sx.nd
  cases hb : swB sc x px scope.names vpos with
  | false =>
    rw [hb] at hsw
    exact PS.imp (ps_set nd hx l1 (tF_ok S.sy h rfl) hsw l2) fun D σ H h => asgN_imp h
  | true =>
    rw [hb] at hsw
    have hloc : X.env.scope.names.lookup x = some .local := by
      unfold swB at hb
      simp only [Bool.and_eq_true, decide_eq_true_eq] at hb
      rw [S.sy.sx.hsc]; exact hb.1.1
    have S0 := S.sy.sx
    match gs, h, hsw with
    | [], h, _ => simp [cE] at h
    | _ :: _ :: _, h, _ => simp [cE] at h
    | [⟨tg, iter, ifs, ia⟩], h, hsw =>
      by_cases ha : ia = 0
      · subst ha
        simp only [cE] at h
        obtain ⟨own, h1, h⟩ := Option.bind_eq_some_iff.mp h
        split at h
        · rename_i hc
          simp only [Bool.and_eq_true, decide_eq_true_eq] at hc
          obtain ⟨⟨⟨c1, c2⟩, c3⟩, c4⟩ := hc
          obtain ⟨its, h2, h⟩ := Option.bind_eq_some_iff.mp h
          obtain ⟨t, h3, h⟩ := Option.bind_eq_some_iff.mp h
          obtain ⟨qs, h4, h⟩ := Option.bind_eq_some_iff.mp h
          obtain ⟨pe, h5, h⟩ := Option.bind_eq_some_iff.mp h
          split at h
          · rename_i h6
            cases h
            have A := at_all (N := N) (Γ := Γ) (C := C) (k := k) (B := B) n
            obtain ⟨a1, a2⟩ := (A n (Nat.le_refl _)).l sc _ its h2 X S0
            have hi' : PI X tg iter (tI X.K B C (cIK Γ sc tg iter).1 its) := pi_all S0 a2 a1 fun e => by
              rw [e] at h2
              obtain ⟨m, p, rfl, rfl, g⟩ := cL_one h2
              exact ⟨p, rfl, ((A m (Nat.le_succ _)).e sc iter p g X S0).1⟩
            have hok : BlkOk X.N X.env.scope scope own := by rw [S0.hN, S0.hsc]; exact blk_of c1
            refine PS.imp (ps_setLc (wi := tI X.K B C (cIK Γ sc tg iter).1 its) (g := tG X.K B t) (tt := tTs X.K B C qs) (te := tE X.K B C pe) S0.calm nd hx hloc hsw hi' hok (fun s H D cl fp => (tg_ok (S0.blk s H scope D cl fp) (blk_sto S0 s H D cl fp) n).1 tg t h3) (fun s H D cl fp => ?_) (fun s H D cl fp => ((A n (Nat.le_refl _)).e _ elt pe h5 _ (S0.blk s H scope D cl fp)).1) (fs_set c2)) fun D σ H h => ?_
            · match ifs, c4, c3, h4 with
              | [], _, _, h4 =>
                have : qs = [] := by
                  cases n with
                  | zero => cases h3
                  | succ m => simp only [cL] at h4; cases h4; rfl
                subst this
                exact ⟨fun pins s σ H Q I hw => pts_nil.run pins s σ H Q I (tTs_nil hw)⟩
              | [c], _, c3, h4 =>
                obtain ⟨m, p, e, rfl, g⟩ := cL_one h4
                have ht : tstB n c = true := by simpa using c3
                have hc := ((A m (by omega)).e _ c p g _ (S0.blk s H scope D cl fp)).2.2 n ht
                exact ⟨fun pins s σ H Q I hw => (pts_one hc).run pins s σ H Q I (tTs_one hw)⟩
            · obtain ⟨F, env, fl, r, f, d, b, env', ev, q⟩ := asgN_imp h
              obtain ⟨⟨d', e1⟩, g1, g2⟩ := Option.map_eq_some_iff.mp ev
              cases g2
              refine lc_imp h6 ⟨F, env, r, _, _, g1, fun v F' H' s hv => q v F' H' s hv fun hb => ?_⟩
              rw [Bool.and_eq_true] at hb
              exact lf_cut s.rl.f0 hb.2 hv
          · cases h
        · cases h
      · simp [cE, ha] at h
end
end PD

/-! PD27: the induction over the statements. -/
namespace PD
open PySem PySem.Spec PyProof.Rows L2
section
variable {N : List Str} {Γ : Gm} {C : Nat → List D → Option (D × List D)} {Z : Nat → List D → Bool} {W : Nat} {k : Nat} {B : Bs} {X : Cx} {sc : Scope} {n : Nat} {tr : Bool} {mu : List Str} {cut : List Nat}
theorem sole_false {value t : Expr} {l : Nat} {env : Env} (h : isComp value = false) : swapsWithSole [t] value l env = pure false := sw_false h
theorem fn_loc (S : Sz X N Γ C Z k sc B tr) {x : Str} (h : sc.names.lookup x = some .local) : X.env.scope.names.lookup x = some .local := by rw [S.sy.sx.hsc]; exact h
theorem spoil_ok (S : Sz X N Γ C Z k sc B tr) {o : Expr} {p : Ex} {x : Str} {apos cpos pos p3 : Pos} {j : Nat} (hc : notCall o = true) (hl : (apos.endLine == cpos.line) = true) (h : cE Γ N (n + 1) sc o = some p) :
    PS X (.Expr (.Call (.Attribute o "append" apos) [.Constant (.str x) j p3] [] cpos) pos) (tM X.K B tr (exS C Z W tr (.spoil p x)) false) := by
  by_cases ht : tr = true
  · refine PS.imp (ps_expr (pe_bm PySem.F.plainAttrs_list PySem.F.slot_list_append PySem.F.type_list_append mt_append (tSp_ok (B := B) S.sy.sx h) (pa_cons pe_str pa_nil) (attr_call hc) rfl hl) (by rfl)) fun D σ H h => ?_
    exact spoil_imp (S.hg ht) h
  · refine PS.imp ps_never fun D σ H ⟨F, env, fl, fw, R, e, a⟩ => ?_
    rw [exS, if_neg ht] at e
    cases e
theorem app_ok (S : Sz X N Γ C Z k sc B tr) {x : Str} {px apos cpos pos : Pos} {a : Expr} {i : Nat} {p : Ex} {mono : Bool} (hv : visB sc x = true) (ho : oddName x = false) (hi : ixOf x N = some i) (hs : notStar a = true) (hl : (apos.endLine == cpos.line) = true) (h : cE Γ N (n + 1) sc a = some p) :
    PS X (.Expr (.Call (.Attribute (.Name x px) "append" apos) [a] [] cpos) pos) (tM X.K B tr (exS C Z W tr (.app i p)) mono) := by
  have hx : X.N[i]? = some x := by rw [S.sy.sx.hN]; exact ixOf_get hi
  have hV : Vis X.env.scope x := by rw [S.sy.sx.hsc]; exact vis_of hv
  have pO := (pe_varE (X := X) (B := B) (C := C) (pos := px) hx hV ho).2
  refine PS.imp (ps_expr (pe_bm PySem.F.plainAttrs_list PySem.F.slot_list_append PySem.F.type_list_append mt_append pO (pa_cons (ex_ok (B := B) h S.sy.sx).1 pa_nil (star_cons hs)) (attr_call rfl) (few_ok hs) hl (star_cons hs) rfl) (by rfl)) fun D σ H h => app_imp h
theorem setix_ok (S : Sz X N Γ C Z k sc B tr) {x : Str} {px sp pos : Pos} {ix e : Expr} {i : Nat} {pi p : Ex} {mono : Bool} (hv : visB sc x = true) (ho : oddName x = false) (hi : ixOf x N = some i) (hn : notSlice ix = true) (hc : isComp e = false) (h1 : cE Γ N (n + 1) sc ix = some pi) (h2 : cE Γ N (n + 1) sc e = some p) :
    PS X (.Assign [.Subscript (.Name x px) ix sp] e pos) (tM X.K B tr (exS C Z W tr (.setix i pi p)) mono) := by
  have hx : X.N[i]? = some x := by rw [S.sy.sx.hN]; exact ixOf_get hi
  have hV : Vis X.env.scope x := by rw [S.sy.sx.hsc]; exact vis_of hv
  have pO := (pe_varE (X := X) (B := B) (C := C) (pos := px) hx hV ho).2
  exact PS.imp (ps_asg (ex_ok (B := B) h2 S.sy.sx).1 (pg_sub pO (ex_ok (B := B) h1 S.sy.sx).1 set_list (sub_asg hn)) (sole_false hc) (st_none2 rfl fun _ _ z => by cases z) rfl) fun D σ H h => setix_imp h
theorem own_ok (S : Sz X N Γ C Z k sc B tr) {x : Str} {px pos lp : Pos} {es : List Expr} {i : Nat} {ps : List Ex} {mono : Bool} (hl : locB sc x = true) (hi : ixOf x N = some i) (hz : es.length ≤ 1000) (h : cL Γ N n sc es = some ps) :
    PS X (.Assign [.Name x px] (.List es lp) pos) (tM X.K B tr (exS C Z W tr (.own i ps)) mono) := by
  have hx : X.N[i]? = some x := by rw [S.sy.sx.hN]; exact ixOf_get hi
  have nd : X.N.Nodup := by rw [S.sy.sx.hN]; exact S.sy.sx.nd
  obtain ⟨l1, l2⟩ := loc_N S hl
  refine PS.imp (ps_set nd hx l1 (pe_lst (exs_ok (B := B) h S.sy.sx).1) (sw_false rfl) l2) fun D σ H hm => own_imp (fun {env env' ds} he => ?_) hm
  have ll : ∀ {ps : List Ex} {env env' : En} {ds : List PD.D}, evL C ps env = some (ds, env') → ds.length = ps.length := by
    intro ps
    induction ps with
    | nil => intro _ _ _ h; rw [evL] at h; cases h; rfl
    | cons p ps ih =>
      intro _ _ _ h
      obtain ⟨o, e1, r, _, h2, rfl⟩ := evL_cons h
      rw [List.length_cons, List.length_cons, ih h2]
  rw [ll he, eval_len h]
  exact Nat.le_trans hz (by decide)
theorem ownc_ok (S : Sz X N Γ C Z k sc B tr) {x : Str} {px pos : Pos} {e : Expr} {i : Nat} {p : Ex} {mono : Bool} (hl : locB sc x = true) (hi : ixOf x N = some i) (hc : isCallE Γ sc e = true) (h : cE Γ N (n + 1) sc e = some p) :
    PS X (.Assign [.Name x px] e pos) (tM X.K B tr (exS C Z W tr (.ownc i p)) mono) := by
  have hx : X.N[i]? = some x := by rw [S.sy.sx.hN]; exact ixOf_get hi
  have nd : X.N.Nodup := by rw [S.sy.sx.hN]; exact S.sy.sx.nd
  obtain ⟨l1, l2⟩ := loc_N S hl
  obtain ⟨f, fp, es, cpos, j, ps, qs, rfl, rfl, h1, h2, h3, h4⟩ := isCallE_in hc h
  exact PS.imp (ps_set nd hx l1 (callZ_ok (B := B) S.sy h1 h2 h3 h4) (sw_false rfl) l2) fun D σ H hm => ownc_imp hm
theorem par2_ok (S : Sz X N Γ C Z k sc B tr) {x y : Str} {px py tp p2 pos : Pos} {kt k2 : Nat} {a b : Expr} {i j : Nat} {q : List (Md × Ex)} {mono : Bool} (hi : ixOf x N = some i) (hj : ixOf y N = some j) (hx : sc.names.lookup x = some .local) (hy : sc.names.lookup y = some .local) (hij : i ≠ j)
    (hw : swS sc [.Name x px, .Name y py] [a, b] = some (some [x, y])) (na : notStar a = true) (nb : notStar b = true) (h : mdE Γ N n sc [a, b] = some q) :
    PS X (.Assign [.Tuple [.Name x px, .Name y py] kt tp] (.Tuple [a, b] k2 p2) pos) (tM X.K B tr (exS C Z W tr (.par [i, j] q)) mono) := by
  have hxN : X.N[i]? = some x := by rw [S.sy.sx.hN]; exact ixOf_get hi
  have hyN : X.N[j]? = some y := by rw [S.sy.sx.hN]; exact ixOf_get hj
  have nd : X.N.Nodup := by rw [S.sy.sx.hN]; exact S.sy.sx.nd
  obtain ⟨g1, g2⟩ := mdE_ok S h (by simp [na, nb])
  refine PS.imp (ps_par S.sy.sx.calm nd hxN hyN hij (fn_loc S hx) (fn_loc S hy) g1 (sw_stores S.sy.sx.hsc S.kind hw) (sole_false rfl)) fun D σ H hm => ?_
  obtain ⟨F, env, fl, r, f, ds, env', e, qq⟩ := par_imp hm
  refine ⟨F, env, fl, r, f, ds, env', e, fun vs F' H' s k => ?_⟩
  obtain ⟨hl, hn⟩ := qq vs F' H' s k
  match vs, hl, hn with
  | [v, w], _, hn => exact ⟨v, w, rfl, hn⟩
theorem par3_ok (S : Sz X N Γ C Z k sc B tr) {x y z : Str} {px py pz tp p2 pos : Pos} {kt k2 : Nat} {a b c : Expr} {i j l : Nat} {q : List (Md × Ex)} {mono : Bool} (hi : ixOf x N = some i) (hj : ixOf y N = some j) (hl : ixOf z N = some l) (hx : sc.names.lookup x = some .local) (hy : sc.names.lookup y = some .local) (hz : sc.names.lookup z = some .local) (hij : i ≠ j) (hil : i ≠ l) (hjl : j ≠ l)
    (hw : swS sc [.Name x px, .Name y py, .Name z pz] [a, b, c] = some (some [x, y, z])) (na : notStar a = true) (nb : notStar b = true) (nc : notStar c = true) (h : mdE Γ N n sc [a, b, c] = some q) :
    PS X (.Assign [.Tuple [.Name x px, .Name y py, .Name z pz] kt tp] (.Tuple [a, b, c] k2 p2) pos) (tM X.K B tr (exS C Z W tr (.par [i, j, l] q)) mono) := by
  have hxN : X.N[i]? = some x := by rw [S.sy.sx.hN]; exact ixOf_get hi
  have hyN : X.N[j]? = some y := by rw [S.sy.sx.hN]; exact ixOf_get hj
  have hzN : X.N[l]? = some z := by rw [S.sy.sx.hN]; exact ixOf_get hl
  have nd : X.N.Nodup := by rw [S.sy.sx.hN]; exact S.sy.sx.nd
  obtain ⟨g1, g2⟩ := mdE_ok S h (by simp [na, nb, nc])
  refine PS.imp (ps_par3 S.sy.sx.calm nd hxN hyN hzN hij hil hjl (fn_loc S hx) (fn_loc S hy) (fn_loc S hz) g1 (sw_stores S.sy.sx.hsc S.kind hw) (sole_false rfl)) fun D σ H hm => ?_
  obtain ⟨F, env, fl, r, f, ds, env', e, qq⟩ := par_imp hm
  refine ⟨F, env, fl, r, f, ds, env', e, fun vs F' H' s k => ?_⟩
  obtain ⟨hl, hn⟩ := qq vs F' H' s k
  match vs, hl, hn with
  | [u, v, w], _, hn => exact ⟨u, v, w, rfl, hn⟩
theorem for_ok (S : Sz X N Γ C Z k sc B tr) {tg iter : Expr} {t : Tg} {m : Md} {ik : IK} {its : List Ex} {body : List Stmt} {b : List Sm} {pos : Pos} {mono : Bool} (hn : notSet iter = true) (hb : noSpB b = true) (ht : cTg N sc (n + 1) tg = some t) (hi : PI X tg iter (tIF X.K B C Z tr m ik its))
    (hB : PSs X body (tM X.K B tr (exB C Z W tr b) (noSpB b))) : PS X (.For tg iter body [] pos) (tM X.K B tr (exS C Z W tr (.for m t ik its b)) mono) :=
  PS.imp (ps_for S.hp S.sy.sx.calm hi (tGF_ok S.sy.sx S.sto ht) hB (fs_set hn)) fun D σ H h => for_imp hb h
/-- all statements, all blocks -/
theorem cS_ok (S : Sz X N Γ C Z k sc B tr) : ∀ n, (∀ st m, cS Γ N mu cut n sc st = some m → PS X st (tM X.K B tr (exS C Z W tr m) (noSp m))) ∧ (∀ l, PSs X l (tM X.K B tr (exB C Z W tr (cB Γ N mu cut n sc l)) (noSpB (cB Γ N mu cut n sc l))))
  | 0 => by
    refine ⟨fun st m h => (by rw [cS] at h; cases h), fun l => ?_⟩
    cases l with
    | nil => exact PSs.imp pss_nil fun D σ H h => nil_imp (by rw [cB] at h; exact h)
    | cons s r =>
      refine PSs.imp pss_never fun D σ H ⟨F, env, fl, fw, R, e, a⟩ => ?_
      rw [cB, List.map_cons, exB, exS] at e
      cases e
  | n + 1 => by
    obtain ⟨ih1, ih2⟩ := cS_ok S n
    refine ⟨fun st m h => ?_, fun l => ?_⟩
    · cases st with
      | Assign ts e pos =>
        match ts, h with
        | [], h => simp [cS] at h
        | _ :: _ :: _, h => simp [cS] at h
        | [t], h =>
          cases t with
          | Name x px =>
            by_cases hmu : mu.contains x = true
            · have h : (if (locB sc x && !oddName x) = true then (ixOf x N).bind fun i => (match e with
                  | .List es _ => if decide (es.length ≤ 1000) = true then (cL Γ N n sc es).map fun ps => Sm.own i ps else none
                  | _ => if isCallE Γ sc e = true then (cE Γ N (n + 1) sc e).map fun p => Sm.ownc i p else none) else none) = some m := by
                rw [← h]; simp only [cS]; rw [if_pos hmu]; try rfl
              split at h
              · rename_i hc
                rw [Bool.and_eq_true] at hc
                obtain ⟨i, hi, h⟩ := Option.bind_eq_some_iff.mp h
                have callc : (if isCallE Γ sc e = true then (cE Γ N (n + 1) sc e).map fun p => Sm.ownc i p else none) = some m → PS X (.Assign [.Name x px] e pos) (tM X.K B tr (exS C Z W tr m) (noSp m)) := fun h => by
                  split at h
                  · rename_i hcall
                    obtain ⟨p, h1, rfl⟩ := Option.map_eq_some_iff.mp h
                    exact ownc_ok S hc.1 hi hcall h1
                  · cases h
                cases e with
                | List es lp =>
                  simp only at h
                  split at h
                  · rename_i hz
                    obtain ⟨ps, h1, rfl⟩ := Option.map_eq_some_iff.mp h
                    exact own_ok S hc.1 hi (of_decide_eq_true hz) h1
                  · cases h
                | _ => exact callc h
              · cases h
            · have gen : isComp e = false → ((cTg N sc (n + 1) (.Name x px)).bind fun tg => (cE Γ N (n + 1) sc e).map fun p => Sm.asg (modeOf Γ cut sc pos e) tg p) = some m → PS X (.Assign [.Name x px] e pos) (tM X.K B tr (exS C Z W tr m) (noSp m)) := fun hc h => by
                obtain ⟨tg, h1, h⟩ := Option.bind_eq_some_iff.mp h
                obtain ⟨p, h2, rfl⟩ := Option.map_eq_some_iff.mp h
                exact asg_ok S hc md_ok (st_none2 rfl fun _ _ z => by cases z) h1 h2
              simp only [cS] at h
              rw [if_neg hmu] at h
              cases e with
              | ListComp elt gs scope vpos =>
                simp only at h
                split at h
                · rename_i hc
                  rw [Bool.and_eq_true] at hc
                  obtain ⟨i, hi, h⟩ := Option.bind_eq_some_iff.mp h
                  obtain ⟨p, h2, rfl⟩ := Option.map_eq_some_iff.mp h
                  exact comp_asg S hc.1 hi h2
                · cases h
              | SetComp _ _ _ _ => cases h
              | DictComp _ _ _ _ _ => cases h
              | _ => exact gen rfl h
          | Tuple ts k tp =>
            have gen : isComp e = false → isTup e = false → ((cTg N sc (n + 1) (.Tuple ts k tp)).bind fun tg => (cE Γ N (n + 1) sc e).map fun p => Sm.asg (modeOf Γ cut sc pos e) tg p) = some m → PS X (.Assign [.Tuple ts k tp] e pos) (tM X.K B tr (exS C Z W tr m) (noSp m)) := fun hc hn h => by
              obtain ⟨tg, h1, h⟩ := Option.bind_eq_some_iff.mp h
              obtain ⟨p, h2, rfl⟩ := Option.map_eq_some_iff.mp h
              exact asg_ok S hc md_ok (st_none hn) h1 h2
            simp only [cS] at h
            cases e with
            | Tuple vs k2 p2 =>
              simp only at h
              split at h
              · cases h
              · rename_i hsw
                obtain ⟨tg, h1, h⟩ := Option.bind_eq_some_iff.mp h
                obtain ⟨p, h2, rfl⟩ := Option.map_eq_some_iff.mp h
                exact asg_ok S rfl rfl (sw_stores S.sy.sx.hsc S.kind hsw) h1 h2
              · split at h
                · obtain ⟨i, hi, h⟩ := Option.bind_eq_some_iff.mp h
                  obtain ⟨j, hj, h⟩ := Option.bind_eq_some_iff.mp h
                  split at h
                  · rename_i hc
                    simp only [Bool.and_eq_true, decide_eq_true_eq] at hc
                    obtain ⟨⟨⟨⟨⟨c1, c2⟩, c3⟩, c4⟩, c5⟩, c6⟩ := hc
                    obtain ⟨q, h1, rfl⟩ := Option.map_eq_some_iff.mp h
                    exact par2_ok S hi hj c1 c2 c3 c4 c5 c6 h1
                  · cases h
                · obtain ⟨i, hi, h⟩ := Option.bind_eq_some_iff.mp h
                  obtain ⟨j, hj, h⟩ := Option.bind_eq_some_iff.mp h
                  obtain ⟨l, hl, h⟩ := Option.bind_eq_some_iff.mp h
                  split at h
                  · rename_i hc
                    simp only [Bool.and_eq_true, decide_eq_true_eq] at hc
                    obtain ⟨⟨⟨⟨⟨⟨⟨⟨⟨c1, c2⟩, c3⟩, c4⟩, c5⟩, c6⟩, c7⟩, c8⟩, c9⟩, c10⟩ := hc
                    obtain ⟨q, h1, rfl⟩ := Option.map_eq_some_iff.mp h
                    exact par3_ok S hi hj hl c1 c2 c3 c4 c5 c6 c7 c8 c9 c10 h1
                  · cases h
                · cases h
            | ListComp _ _ _ _ => cases h
            | SetComp _ _ _ _ => cases h
            | DictComp _ _ _ _ _ => cases h
            | _ => exact gen rfl rfl h
          | Subscript o ix sp =>
            cases o with
            | Name x px =>
              simp only [cS] at h
              split at h
              · rename_i hc
                simp only [Bool.and_eq_true, Bool.not_eq_true'] at hc
                obtain ⟨⟨⟨c1, c2⟩, c3⟩, c4⟩ := hc
                obtain ⟨i, hi, h⟩ := Option.bind_eq_some_iff.mp h
                obtain ⟨pi, h1, h⟩ := Option.bind_eq_some_iff.mp h
                obtain ⟨p, h2, rfl⟩ := Option.map_eq_some_iff.mp h
                exact setix_ok S c3 c4 hi c1 c2 h1 h2
              · cases h
            | _ => simp [cS] at h
          | _ => simp [cS] at h
      | Expr e pos =>
        have gen : (if isComp e = true then none else (cE Γ N (n + 1) sc e).map Sm.ex) = some m → PS X (.Expr e pos) (tM X.K B tr (exS C Z W tr m) (noSp m)) := fun h => by
          split at h
          · cases h
          · rename_i hc
            obtain ⟨p, h1, rfl⟩ := Option.map_eq_some_iff.mp h
            exact PS.imp (ps_expr (ex_ok (B := B) h1 S.sy.sx).1 (sw_false (by simpa using hc))) fun D σ H h => ex_imp h
        by_cases w0 : ∃ s j p, e = .Constant (.str s) j p
        · obtain ⟨s, j, p, rfl⟩ := w0
          simp only [cS] at h
          cases h
          exact PS.imp ps_doc fun D σ H h => pass_imp h
        by_cases w1 : ∃ o m apos a cpos, e = .Call (.Attribute o m apos) [a] [] cpos
        · obtain ⟨o, mn, apos, a, cpos, rfl⟩ := w1
          simp only [cS] at h
          split at h
          · rename_i hc
            simp only [Bool.and_eq_true, decide_eq_true_eq] at hc
            obtain ⟨⟨⟨c1, c2⟩, c3⟩, c4⟩ := hc
            subst c1
            have sp : (match (generalizing := false) a with
                | .Constant (.str s) _ _ => (cE Γ N (n + 1) sc o).map fun p => Sm.spoil p s
                | _ => none) = some m → PS X (.Expr (.Call (.Attribute o "append" apos) [a] [] cpos) pos) (tM X.K B tr (exS C Z W tr m) (noSp m)) := fun h => by
              cases a with
              | Constant c j p3 =>
                cases c with
                | str s =>
                  obtain ⟨p, h1, rfl⟩ := Option.map_eq_some_iff.mp h
                  exact spoil_ok S c4 c2 h1
                | _ => cases h
              | _ => cases h
            cases o with
            | Name x px =>
              simp only at h
              split at h
              · rename_i hv
                simp only [Bool.and_eq_true, Bool.not_eq_true'] at hv
                obtain ⟨i, hi, h⟩ := Option.bind_eq_some_iff.mp h
                obtain ⟨p, h1, rfl⟩ := Option.map_eq_some_iff.mp h
                exact app_ok S hv.1.1 hv.1.2 hi c3 c2 h1
              · exact sp h
            | _ => exact sp h
          · cases h
        · refine gen ?_
          rw [← h]
          simp only [cS]
          symm
          split
          · exact absurd ⟨_, _, _, rfl⟩ w0
          · exact absurd ⟨_, _, _, _, _, rfl⟩ w1
          · rfl
      | Return v pos =>
        cases v with
        | none =>
          simp only [cS] at h
          cases h
          exact PS.imp ps_retN fun D σ H h => retN_imp h
        | some e =>
          simp only [cS] at h
          obtain ⟨p, h1, rfl⟩ := Option.map_eq_some_iff.mp h
          exact PS.imp (ps_ret (tF_ok S.sy h1 md_ok)) fun D σ H h => ret_imp h
      | If c a b pos =>
        simp only [cS] at h
        split at h
        · rename_i ht
          obtain ⟨pc, h1, h2⟩ := Option.bind_eq_some_iff.mp h
          cases h2
          refine PS.imp (ps_if ((ex_ok (B := B) h1 S.sy.sx).2.2 _ ht) (ih2 a) (ih2 b)) fun D σ H h => ite_impS (fun hm => ?_) h
          rw [noSp, Bool.and_eq_true] at hm
          exact hm
        · cases h
      | For tg iter body els pos =>
        cases els with
        | cons s r => simp [cS] at h
        | nil =>
          simp only [cS] at h
          split at h
          · rename_i hc
            rw [Bool.and_eq_true] at hc
            obtain ⟨t, h1, h⟩ := Option.bind_eq_some_iff.mp h
            split at h
            · rename_i hq
              simp only [Bool.and_eq_true, decide_eq_true_eq, Bool.or_eq_true] at hq
              obtain ⟨p, h2, rfl⟩ := Option.map_eq_some_iff.mp h
              have hm : modeOf Γ cut sc pos iter ≠ .plain := by
                unfold modeOf
                split
                · exact fun z => by cases z
                · rename_i hcut
                  rw [if_pos (hq.2.resolve_left hcut)]
                  exact fun z => by cases z
              exact for_ok S hc.1 hc.2 h1 (piF_seq hm (tF_ok S.sy h2 md_ok)) (ih2 body)
            · obtain ⟨its, h2, rfl⟩ := Option.map_eq_some_iff.mp h
              obtain ⟨a1, a2⟩ := exs_ok (B := B) h2 S.sy.sx
              refine for_ok S hc.1 hc.2 h1 (piF_plain (pi_all S.sy.sx a2 a1 fun e => ?_)) (ih2 body)
              rw [e] at h2
              obtain ⟨m, p, _, rfl, g⟩ := cL_one h2
              exact ⟨p, rfl, (ex_ok (B := B) g S.sy.sx).1⟩
          · cases h
      | While c body els pos =>
        cases els with
        | cons s r => simp [cS] at h
        | nil =>
          simp only [cS] at h
          split at h
          · rename_i hc
            rw [Bool.and_eq_true] at hc
            obtain ⟨pc, h1, rfl⟩ := Option.map_eq_some_iff.mp h
            exact PS.imp (ps_while S.hp ((ex_ok (B := B) h1 S.sy.sx).2.2 _ hc.1) (ih2 body)) fun D σ H h => while_imp hc.2 h
          · cases h
      | Pass pos => simp only [cS] at h; cases h; exact PS.imp ps_pass fun D σ H h => pass_imp h
      | Break pos => simp only [cS] at h; cases h; exact PS.imp ps_break fun D σ H h => brk_imp h
      | Continue pos => simp only [cS] at h; cases h; exact PS.imp ps_continue fun D σ H h => cont_imp h
      | _ => simp [cS] at h
    · cases l with
      | nil =>
        rw [cB]
        exact PSs.imp pss_nil fun D σ H h => nil_imp h
      | cons s r =>
        rw [cB]
        have hs : PS X s (tM X.K B tr (exS C Z W tr (match cS Γ N mu cut n sc s with
          | some m => m
          | none => .bad)) (noSp (match cS Γ N mu cut n sc s with
          | some m => m
          | none => .bad))) := by
          cases e : cS Γ N mu cut n sc s with
          | some m => exact ih1 s m e
          | none => exact PS.imp ps_never fun D σ H h => bad_imp h
        refine PSs.imp (pss_cons hs (ih2 r)) fun D σ H h => cons_imp (fun hm => ?_) h
        rw [noSpB, Bool.and_eq_true] at hm
        exact hm
end
end PD

/-! PD28: a def as a whole. -/
namespace PD
open PySem PySem.Spec PyProof.Rows L2
section
variable {P : Program} {w : World} {K : PySem.W.Frag} {mg : Str → Option Value} {base : Heap} {k : Nat} {f : Addr} {fd : FuncData} {x qual : Str} {st : Stmt} {N ps : List Str} {sp : Sp}
/-- a def's promise from its body's reading, where no repr runs around -/
theorem FG.body (G : Fun K x qual st f fd) (Sc : FnScope N ps (defScope st)) (ln : ∀ vs H Q E, sp vs H Q E → vs.length = ps.length)
    (bd : ∀ (cdv : Value) (A : Around) (outer : List Env) (s : Shared) (H : Hp) (vs : List V) (Q : VK) (E : XK), (A.deeper (envOfC qual (defScope st) s.heap.objs.size f cdv)).guards = some [] → Room k (A.deeper (envOfC qual (defScope st) s.heap.objs.size f cdv)) → sp vs H Q E →
      ∃ t, PSs (cxOf CX0 P w K mg base N qual (defScope st) f cdv A outer s H E).nox (defBody st) t ∧ t { nx := fun _ H' => Q .non H', rt := Q } (start N vs) H) : FG P w K mg base CX0 (k + 1) f fd ps sp := by
  obtain ⟨oc, od, kV, doc, pm, an, cdv, ct, osl, rfl, look, code⟩ := G.ex
  refine ⟨ln, fun A outer s0 H args us vs Q E gd room e0 bt rv hw => ?_⟩
  have kin : K.In s0.heap := e0.mod.kin.keeps fun b o e => (e0.bs b o e).1
  have nol : s0.heap.NoLimit := e0.mod.nolimit.keeps fun b o e => (e0.bs b o e).1
  have kinds : ∀ y ∈ ps.zip us, (defScope st).names.lookup y.1 = some .local ∨ ((defScope st).names.lookup y.1 = some .cell ∧ ((cellsFrom (s0.heap.objs.size + 1) (defScope st).names []).lookup y.1).isSome = true) := by
    rintro ⟨nm, u⟩ hy
    exact (Sc.par nm (List.of_mem_zip hy).1).imp id fun q => ⟨q, PySem.W.cellsFrom_some _ _ _ (.inl q)⟩
  have dep : A.depth < recursionLimit := by have := room.dp; omega
  refine codeAny_call_function dep (kin _ _ look) rfl Sc.co Sc.gen rfl (PySem.W.codeRec_of kin code) (bt _ _ _ _ ?_)
  refine wpAny_newFunctionEnv_cells Sc.kind kinds fun env ee s2 ic => ?_
  subst ee
  obtain ⟨t, run, at0⟩ := bd cdv A outer s0 H vs Q E gd (room.deeper _) hw
  refine ⟨nol.keeps ic.toInCall.keep, codeAny_func ?_⟩
  have I0 := inv_start (CX := CX0) (P := P) (E := E) Sc room.hd e0 (ln _ _ _ _ hw) rv ic
  have done : ∀ {σ1 : L2.St} {H1 : Hp} {v : V} {u : Value} {s' : Shared}, Inv (cxOf CX0 P w K mg base N qual (defScope st) f cdv A outer s0 H E) [] σ1 H1 s' → RelV v u → Q v H1 → CE outer P w H s0 Q u s' :=
    fun {σ1 H1 v u s'} J rv q => ⟨v, H1, J.os, J.bare, J.base, J.hok, rv, q⟩
  refine wpAny_mono (run.nox.run [] s2 (start N vs) H _ I0 at0) (fun flow s' he => ?_) fun e s' he => he
  match flow, he with
  | .ret u, ⟨v, _, _, J, r', q⟩ => exact done J r' q
  | .next, ⟨_, _, J, q⟩ => exact done (v := .non) (u := .none) J rfl q
  | .brk, ⟨_, _, _, q⟩ => exact q.elim
  | .cont, ⟨_, _, _, q⟩ => exact q.elim
end
/-! ### the entry -/
section
variable {K : PySem.W.Frag} {B : Bs} {F H : Hp}
theorem start_at {N : List Str} {vs : List V} {i : Nat} (h : i < vs.length) : svAt (start N vs) i = vs[i]? := by
  unfold svAt L2.start
  rw [List.getElem?_append_left (by simpa using h), List.getElem?_map]
  cases e : vs[i]? with
  | none => rfl
  | some v => rfl
theorem start_len {N : List Str} {vs : List V} (h : vs.length ≤ N.length) : (start N vs).length = N.length := by
  unfold L2.start
  rw [List.length_append, List.length_map, List.length_replicate]
  omega
theorem slot_app {l : En} {n i : Nat} : slot (l ++ List.replicate n .no) i = slot l i := by
  unfold slot
  rw [List.getD_eq_getElem?_getD, List.getD_eq_getElem?_getD]
  by_cases h : i < l.length
  · rw [List.getElem?_append_left h]
  · rw [List.getElem?_append_right (by omega), List.getElem?_eq_none (l := l) (by omega)]
    by_cases h2 : i - l.length < n
    · rw [List.getElem?_replicate, if_pos h2]; rfl
    · rw [List.getElem?_replicate, if_neg h2]
theorem slot_vals {ds : List D} {i : Nat} : slot (ds.map Slot.val) i = match ds[i]? with
    | some d => .val d
    | none => .no := by
  unfold slot
  rw [List.getD_eq_getElem?_getD, List.getElem?_map]
  cases ds[i]? <;> rfl
theorem RpAll.get_of {vs : List V} {ds : List D} (h : RpAll K F vs ds) {i : Nat} {d : D} (e : ds[i]? = some d) : ∃ v, vs[i]? = some v ∧ i < vs.length ∧ Rp K F v d := by
  obtain ⟨v, h1, h2⟩ := RpAll.get h e
  exact ⟨v, h1, (List.getElem?_eq_some_iff.mp h1).1, h2⟩
/-- the entry of a def that changes no argument -/
theorem entry0 {N : List Str} {vs : List V} {ds : List D} (fh : Same F H) (h : RpAll K F vs ds) (hl : ds.length ≤ N.length) : Rl K ⟨H, F, none⟩ F (ds.map .val ++ List.replicate (N.length - ds.length) .no) (start N vs) H := by
  have hm : ∀ i, isMut (slot (ds.map Slot.val ++ List.replicate (N.length - ds.length) .no) i) = true → False := fun i m => by
    rw [slot_app, slot_vals] at m
    cases e : ds[i]? with
    | none => rw [e] at m; cases m
    | some d => rw [e] at m; cases m
  refine ⟨fh, Same.refl _, fun _ _ _ n => n, fun _ _ e _ => e, (fun _ z => by cases z), fun i => ?_, fun i j a m _ _ _ => (hm i m).elim, ?_, fun _ _ _ z => z⟩
  · rw [slot_app, slot_vals]
    cases e : ds[i]? with
    | none => trivial
    | some d =>
      obtain ⟨v, h1, h2, h3⟩ := RpAll.get_of h e
      exact ⟨v, by rw [start_at h2, h1], h3⟩
  · rw [start_len (by rw [RpAll.length h]; exact hl), List.length_append, List.length_map, List.length_replicate]
    omega
/-- .. and of one that changes its first -/
theorem entry1 {N : List Str} {a : Addr} {us : List V} {gs : List D} {vs : List V} {ds : List D} (fh : Same F H) (ha : H a = some (.lst us)) (hf : F a = none) (hg : RpAll K F us gs) (h : RpAll K F vs ds) (hl : ds.length + 1 ≤ N.length) :
    Rl K ⟨H, F, some a⟩ F ((.brw gs :: ds.map .val) ++ List.replicate (N.length - (ds.length + 1)) .no) (start N (.ref a :: vs)) H := by
  have hs : ∀ i, slot (Slot.brw gs :: ds.map Slot.val ++ List.replicate (N.length - (ds.length + 1)) .no) (i + 1) = match ds[i]? with
    | some d => .val d
    | none => .no := fun i => by
    rw [slot_app, ← slot_vals]; rfl
  have hm : ∀ i, isMut (slot (Slot.brw gs :: ds.map Slot.val ++ List.replicate (N.length - (ds.length + 1)) .no) i) = true → i = 0 := fun i m => by
    cases i with
    | zero => rfl
    | succ i =>
      rw [hs] at m
      cases e : ds[i]? with
      | none => rw [e] at m; cases m
      | some d => rw [e] at m; cases m
  refine ⟨fh, Same.refl _, fun _ _ _ n => n, fun _ _ e _ => e, (fun b z => by cases z; exact ⟨_, ha⟩), fun i => ?_, (fun i j b m1 m2 _ _ => by rw [hm i m1, hm j m2]), ?_, fun _ _ _ z => z⟩
  · cases i with
    | zero => exact ⟨a, us, by rw [start_at (by simp)]; rfl, rfl, ha, hf, hg⟩
    | succ i =>
      rw [hs]
      cases e : ds[i]? with
      | none => trivial
      | some d =>
        obtain ⟨v, h1, h2, h3⟩ := RpAll.get_of h e
        exact ⟨v, by rw [start_at (by simpa using h2)]; simpa using h1, h3⟩
  · rw [start_len (by rw [List.length_cons, RpAll.length h]; exact hl), List.length_append, List.length_cons, List.length_map, List.length_replicate]
    omega
theorem old_ok {σ : L2.St} : ∀ {ds : List D} {vs : List V} {i : Nat}, RpAll K B.F0 vs ds → (∀ j v, vs[j]? = some v → svAt σ (i + j) = some v) → FlOk K B F σ (oldOf ds i)
  | [], _, _, _, _ => fun p hp => by cases hp
  | d :: ds, _, i, h, hv => by
    cases h with
    | @cons v vs _ _ h1 h2 =>
      intro p hp
      rcases List.mem_cons.mp hp with rfl | hp
      · exact ⟨v, hv 0 v rfl, by rw [if_neg (show ¬ (false = true) by decide)]; exact h1⟩
      · exact old_ok h2 (fun j u e => by
          have := hv (j + 1) u (by simpa using e)
          rw [show i + 1 + j = i + (j + 1) by omega]; exact this) p hp
end
/-! ### the defs of a table -/
/-- a def of the text, and its entry in the table -/
structure DefOk (K : PySem.W.Frag) (mg : Str → Option Value) (Γ : Gm) (T : List Fd) (x : Str) (i : Nat) (ps : List Str) (m : Bool) : Prop where
  ex : ∃ (f : Addr) (fd : FuncData) (st : Stmt) (N mu : List Str) (cut : List Nat) (tr : Bool) (n : Nat), mg x = some (.ref f) ∧ Fun K x x st f fd ∧ FnScope N ps (defScope st) ∧ Binds K fd ps [] ∧
    T[i]? = some ⟨ps.length, N.length, m, tr, cB Γ N mu cut n (defScope st) (defBody st)⟩ ∧ (m = true → tr = false) ∧ ∀ ks perm, (x, ks, perm) ∈ Γ.kws → KB K fd ps ks perm
section
variable {P : Program} {w : World} {K : PySem.W.Frag} {mg : Str → Option Value} {base : Heap} {Γ : Gm} {T : List Fd} {W : Nat}
theorem fg_imp {k : Nat} {f : Addr} {fd : FuncData} {ps : List Str} {sp sp' : Sp} (F : FG P w K mg base CX0 k f fd ps sp) (h : ∀ vs H Q E, sp' vs H Q E → sp vs H Q E) : FG P w K mg base CX0 k f fd ps sp' :=
  ⟨fun vs H Q E q => F.len vs H Q E (h _ _ _ _ q), fun A outer s H args us vs Q E g r e b v q => F.run A outer s H args us vs Q E g r e b v (h _ _ _ _ q)⟩
theorem pre_len {N ps : List Str} {sc : Scope} (S : FnScope N ps sc) : ps.length ≤ N.length := by
  have := congrArg List.length S.pre
  rw [List.length_take] at this
  omega
theorem sto_fn {N : List Str} {sc : Scope} {f : Addr} {cdv : Value} {A : Around} {outer : List Env} {s : Shared} {H : Hp} {E : XK} {qual : Str} : Sto (cxOf CX0 P w K mg base N qual sc f cdv A outer s H E).nox sc := fun x h => ⟨loc_of h, .inl rfl⟩
theorem sx_of {N ps : List Str} {sc : Scope} {f : Addr} {cdv : Value} {A : Around} {outer : List Env} {s : Shared} {H : Hp} {E : XK} {qual : Str} {k : Nat} {C : Nat → List D → Option (D × List D)} {Z : Nat → List D → Bool} {B : Bs} {tr : Bool} (S : FnScope N ps sc)
    (hg : (A.deeper (envOfC qual sc s.heap.objs.size f cdv)).guards = some []) (hr : Room k (A.deeper (envOfC qual sc s.heap.objs.size f cdv))) (g1 : GOk P w K mg base Γ C k) (g2 : GZ P w K mg base Γ C Z k) (h : tr = true → B.g = none) :
    Sz (cxOf CX0 P w K mg base N qual sc f cdv A outer s H E).nox N Γ C Z k sc B tr :=
  ⟨⟨⟨rfl, S.nd, rfl, rfl, hr, hg, g1⟩, g2⟩, sto_fn, PassesOwn.never, S.kind, h⟩
theorem runT_succ {n i : Nat} {ds : List D} : runT T W (n + 1) i ds = (T[i]?).bind fun fd => bodyRun (CT T W n) (ZT T W n) W fd ds := rfl
theorem outG0 {e : En} {gs : List D} (h : outG false e = some gs) : gs = [] := by
  unfold outG at h
  rw [if_neg (by decide)] at h
  cases h; rfl
/-- a level from the one below: a def that changes no argument -/
theorem lev0 {k n i : Nat} {x : Str} {ps : List Str} (g1 : GOk P w K mg base Γ (CT T W n) k) (g2 : GZ P w K mg base Γ (CT T W n) (ZT T W n) k) (h : DefOk K mg Γ T x i ps false) :
    ∃ f fd, mg x = some (.ref f) ∧ PySem.W.keepIn K (.ref f) = true ∧ Binds K fd ps [] ∧ FG P w K mg base CX0 (k + 1) f fd ps (spZ K (CT T W (n + 1) i) (ZT T W (n + 1) i)) ∧ ∀ ks perm, (x, ks, perm) ∈ Γ.kws → KB K fd ps ks perm := by
  obtain ⟨f, fd, st, N, mu, cut, tr, m, h1, h2, h3, h4, h5, h6, h7⟩ := h.ex
  refine ⟨f, fd, h1, h2.kp, h4, FG.body h2 h3 (fun vs H Q E ⟨F, ds, d, gs, q1, q2, q3, q4⟩ => ?_) fun cdv A outer s H vs Q E hg hr ⟨F, ds, d, gs, q1, q2, q3, q4⟩ => ?_, h7⟩
  · unfold CT getC at q3
    rw [runT_succ, h5] at q3
    obtain ⟨r, q3, _⟩ := Option.map_eq_some_iff.mp q3
    rw [Option.bind_some] at q3
    unfold bodyRun at q3
    split at q3
    · rename_i e; rw [RpAll.length q2]; exact e
    · cases q3
  · have z : ZT T W (n + 1) i ds = getZ (runT T W (n + 1) i ds) := rfl
    unfold CT getC at q3
    rw [runT_succ, h5] at q3 z
    obtain ⟨⟨d', gs', b⟩, p3, q5⟩ := Option.map_eq_some_iff.mp q3
    clear q3
    rw [p3] at z
    rw [Option.bind_some] at p3
    have q3 := p3
    clear p3
    cases q5
    unfold bodyRun at q3
    split at q3
    · rename_i hlen
      have hlen : ds.length = ps.length := hlen
      obtain ⟨pv, q6, q3⟩ := Option.bind_eq_some_iff.mp q3
      obtain ⟨fw, q7, q8⟩ := Option.bind_eq_some_iff.mp q3
      have q6 : pv = ds.map .val := by
        cases ds with
        | nil => cases q6; rfl
        | cons d ds => cases q6; rfl
      subst q6
      have hle : ds.length ≤ N.length := by rw [hlen]; exact pre_len h3
      let B : Bs := ⟨H, F, none⟩
      have R0 : Rl K B F (ds.map .val ++ List.replicate (N.length - ps.length) .no) (start N vs) H := by rw [← hlen]; exact entry0 q1 q2 hle
      refine ⟨_, (cS_ok (B := B) (W := W) (mu := mu) (cut := cut) (sx_of h3 hg hr g1 g2 (tr := tr) fun _ => rfl) m).2 (defBody st), F, _, if tr = true then oldOf ds 0 else [], fw, ⟨R0, ?_, fun e => by rw [e]; rfl⟩, q7, ?_⟩
      · split
        · exact old_ok q2 fun j v e => by rw [Nat.zero_add, start_at (List.getElem?_eq_some_iff.mp e).1]; exact e
        · exact fun p hp => by cases hp
      · have post : ∀ {e : En} {σ' : L2.St} {F' H' : Hp}, Rl K B F' e σ' H' → Post K none F H F' H' [] := fun {e σ' F' H'} r => ⟨r.f0, r.fh, fun b o q n => r.fresh b o q n, fun b o q _ => r.keep b o q nofun, r.nz, (fun _ z => by cases z)⟩
        cases fw with
        | nx e l =>
          have q8 : (outG false e).map (fun g => (PyData.none, g, tr)) = some (d', gs', b) := q8
          obtain ⟨g, _, q9⟩ := Option.map_eq_some_iff.mp q8
          cases q9
          exact fun σ' F' H' R' _ => q4 .non F' H' (post R'.rl) .non fun _ => .non
        | rt d fb e =>
          have q8 : (outG false e).map (fun g => (d, g, fb)) = some (d', gs', b) := q8
          obtain ⟨g, _, q9⟩ := Option.map_eq_some_iff.mp q8
          cases q9
          exact fun v σ' F' H' r hv hb => q4 v F' H' (post r) hv fun hz => hb (by rw [z] at hz; exact hz)
        | bk e l => cases q8
        | ct e l => cases q8
    · cases q3
/-- .. one that changes its first -/
theorem lev1 {k n i : Nat} {x : Str} {ps : List Str} (g1 : GOk P w K mg base Γ (CT T W n) k) (g2 : GZ P w K mg base Γ (CT T W n) (ZT T W n) k) (h : DefOk K mg Γ T x i ps true) :
    ∃ f fd, mg x = some (.ref f) ∧ PySem.W.keepIn K (.ref f) = true ∧ Binds K fd ps [] ∧ FG P w K mg base CX0 (k + 1) f fd ps (sp1 K (CT T W (n + 1) i)) := by
  obtain ⟨f, fd, st, N, mu, cut, tr, m, h1, h2, h3, h4, h5, h6, h7⟩ := h.ex
  have h6 := h6 rfl
  subst h6
  refine ⟨f, fd, h1, h2.kp, h4, FG.body h2 h3 (fun vs H Q E ⟨F, a, us, gs, r, dr, d, gs', q0, q1, qa, qf, qg, q2, q3, q4⟩ => ?_) fun cdv A outer s H vs Q E hg hr ⟨F, a, us, gs, r, dr, d, gs', q0, q1, qa, qf, qg, q2, q3, q4⟩ => ?_⟩
  · unfold CT getC at q3
    rw [runT_succ, h5] at q3
    obtain ⟨r', q3, _⟩ := Option.map_eq_some_iff.mp q3
    rw [Option.bind_some] at q3
    unfold bodyRun at q3
    split at q3
    · rename_i e
      have e : (PyData.list gs :: dr).length = ps.length := e
      rw [← e, q0, List.length_cons, List.length_cons, RpAll.length q2]
    · cases q3
  · subst q0
    unfold CT getC at q3
    rw [runT_succ, h5] at q3
    obtain ⟨⟨d', g0, b⟩, p3, q5⟩ := Option.map_eq_some_iff.mp q3
    clear q3
    rw [Option.bind_some] at p3
    have q3 := p3
    clear p3
    cases q5
    unfold bodyRun at q3
    split at q3
    · rename_i hlen
      have hlen : dr.length + 1 = ps.length := hlen
      obtain ⟨pv, q6, q3⟩ := Option.bind_eq_some_iff.mp q3
      obtain ⟨fw, q7, q8⟩ := Option.bind_eq_some_iff.mp q3
      have q6 : pv = .brw gs :: dr.map .val := by cases q6; rfl
      subst q6
      have hle : dr.length + 1 ≤ N.length := by rw [hlen]; exact pre_len h3
      let B : Bs := ⟨H, F, some a⟩
      have R0 : Rl K B F ((.brw gs :: dr.map .val) ++ List.replicate (N.length - ps.length) .no) (start N (.ref a :: r)) H := by rw [← hlen]; exact entry1 q1 qa qf qg q2 hle
      refine ⟨_, (cS_ok (B := B) (W := W) (mu := mu) (cut := cut) (sx_of h3 hg hr g1 g2 (tr := false) fun z => by cases z) m).2 (defBody st), F, _, [], fw, ⟨R0, (fun p hp => by cases hp), fun _ => rfl⟩, q7, ?_⟩
      have post : ∀ {e : En} {σ' : L2.St} {F' H' : Hp} {gs'' : List D}, Rl K B F' e σ' H' → outG true e = some gs'' → Post K (some a) F H F' H' gs'' := fun {e σ' F' H' gs''} r hg => by
        refine ⟨r.f0, r.fh, fun b o q n => r.fresh b o q n, fun b o q n => r.keep b o q n, r.nz, fun b z => ?_⟩
        cases z
        unfold outG at hg
        rw [if_pos rfl] at hg
        have hs := r.sl 0
        cases q : slot e 0 with
        | brw g2 =>
          rw [q] at hg hs
          cases hg
          obtain ⟨c, ws, _, e2, e3, e4, e5⟩ := hs
          have : a = c := Option.some.inj e2
          subst this
          exact ⟨ws, e3, e4, e5⟩
        | no => rw [q] at hg; cases hg
        | val d => rw [q] at hg; cases hg
        | own d => rw [q] at hg; cases hg
      cases fw with
      | nx e l =>
        have q8 : (outG true e).map (fun g => (PyData.none, g, false)) = some (d', g0, b) := q8
        obtain ⟨g, q10, q9⟩ := Option.map_eq_some_iff.mp q8
        cases q9
        exact fun σ' F' H' R' _ => q4 .non F' H' (post R'.rl q10) .non
      | rt d fb e =>
        have q8 : (outG true e).map (fun g => (d, g, fb)) = some (d', g0, b) := q8
        obtain ⟨g, q10, q9⟩ := Option.map_eq_some_iff.mp q8
        cases q9
        exact fun v σ' F' H' r hv hb => q4 v F' H' (post r q10) hv
      | bk e l => cases q8
      | ct e l => cases q8
    · cases q3
/-- what a text's defs, constants and built-ins are -/
structure TOk (K : PySem.W.Frag) (mg : Str → Option Value) (Γ : Gm) (T : List Fd) : Prop where
  defs : ∀ x i ps m, Γ.defs.lookup x = some (i, ps, m) → DefOk K mg Γ T x i ps m
  cons : ∀ x d, Γ.cons.lookup x = some d → ∃ v u, mg x = some u ∧ RelV v u ∧ Rp K (fun _ => none) v d
  blts : ∀ x, Γ.blts.contains x = true → mg x = none
theorem levels (t : TOk K mg Γ T) : ∀ n, GOk P w K mg base Γ (CT T W n) n ∧ GZ P w K mg base Γ (CT T W n) (ZT T W n) n
  | 0 => by
    have no : ∀ {i : Nat} {ds : List D} {r : D × List D}, CT T W 0 i ds = some r → False := fun {i ds r} h => by cases h
    refine ⟨⟨fun x i ps m h => ?_, fun x i ps ks perm h hm => ?_, t.cons, t.blts⟩, fun x i ps h => ?_⟩
    · obtain ⟨f, fd, st, N, mu, cut, tr, n, h1, h2, h3, h4, h5, h6, h7⟩ := (t.defs x i ps m h).ex
      refine ⟨f, fd, h1, h2.kp, h4, ?_⟩
      cases m with
      | false => exact ⟨fun vs H Q E ⟨F, ds, d, gs, q1, q2, q3, q4⟩ => (no q3).elim, fun A outer s H args us vs Q E _ _ _ _ _ ⟨F, ds, d, gs, q1, q2, q3, q4⟩ => (no q3).elim⟩
      | true => exact ⟨fun vs H Q E ⟨F, a, us, gs, r, dr, d, gs', q0, q1, qa, qf, qg, q2, q3, q4⟩ => (no q3).elim, fun A outer s H args us vs Q E _ _ _ _ _ ⟨F, a, us, gs, r, dr, d, gs', q0, q1, qa, qf, qg, q2, q3, q4⟩ => (no q3).elim⟩
    · obtain ⟨f, fd, st, N, mu, cut, tr, n, h1, h2, h3, h4, h5, h6, h7⟩ := (t.defs x i ps false h).ex
      exact ⟨f, fd, h1, h2.kp, h7 ks perm hm, ⟨fun vs H Q E ⟨F, ds, d, gs, q1, q2, q3, q4⟩ => (no q3).elim, fun A outer s H args us vs Q E _ _ _ _ _ ⟨F, ds, d, gs, q1, q2, q3, q4⟩ => (no q3).elim⟩⟩
    · obtain ⟨f, fd, st, N, mu, cut, tr, n, h1, h2, h3, h4, h5, h6, h7⟩ := (t.defs x i ps false h).ex
      exact ⟨f, fd, h1, h2.kp, h4, ⟨fun vs H Q E ⟨F, ds, d, gs, q1, q2, q3, q4⟩ => (no q3).elim, fun A outer s H args us vs Q E _ _ _ _ _ ⟨F, ds, d, gs, q1, q2, q3, q4⟩ => (no q3).elim⟩⟩
  | n + 1 => by
    obtain ⟨g1, g2⟩ := levels t n
    have weak : ∀ {f : Addr} {fd : FuncData} {ps : List Str} {i : Nat}, FG P w K mg base CX0 (n + 1) f fd ps (spZ K (CT T W (n + 1) i) (ZT T W (n + 1) i)) → FG P w K mg base CX0 (n + 1) f fd ps (sp0 K (CT T W (n + 1) i)) := fun {f fd ps i} h4 =>
      fg_imp h4 fun vs H Q E ⟨F, ds, d, gs, q1, q2, q3, q4⟩ => ⟨F, ds, d, gs, q1, q2, q3, fun v F' H' p hv _ => q4 v F' H' p hv⟩
    refine ⟨⟨fun x i ps m h => ?_, fun x i ps ks perm h hm => ?_, t.cons, t.blts⟩, fun x i ps h => ?_⟩
    · cases m with
      | false =>
        obtain ⟨f, fd, h1, h2, h3, h4, _⟩ := lev0 (P := P) (w := w) (base := base) g1 g2 (t.defs x i ps false h)
        exact ⟨f, fd, h1, h2, h3, weak h4⟩
      | true => exact lev1 g1 g2 (t.defs x i ps true h)
    · obtain ⟨f, fd, h1, h2, h3, h4, h5⟩ := lev0 (P := P) (w := w) (base := base) g1 g2 (t.defs x i ps false h)
      exact ⟨f, fd, h1, h2, h5 ks perm hm, weak h4⟩
    · obtain ⟨f, fd, h1, h2, h3, h4, _⟩ := lev0 (P := P) (w := w) (base := base) g1 g2 (t.defs x i ps false h)
      exact ⟨f, fd, h1, h2, h3, h4⟩
end
end PD

/-! PD29: the law's call. -/
namespace PD
open PySem PySem.Spec PyProof.Rows L2
/-- K without the object at a -/
def lessK (K : PySem.W.Frag) (a : Addr) : PySem.W.Frag := K.filter fun p => p.1 != a
theorem lessK_get {K : PySem.W.Frag} {a b : Addr} (h : b ≠ a) : (lessK K a).lookup b = K.lookup b := by
  unfold lessK
  induction K with
  | nil => rfl
  | cons p r ih =>
    obtain ⟨c, o⟩ := p
    rw [List.filter_cons]
    by_cases hc : c = a
    · subst hc
      have hb : (b == c) = false := by simpa using h
      simp only [bne_self_eq_false, Bool.false_eq_true, if_false, List.lookup, hb]
      exact ih
    · have hn : (c != a) = true := by simpa using hc
      rw [show (((c, o) : Addr × Obj).1 != a) = true from hn, if_pos rfl, List.lookup_cons, List.lookup_cons, ih]
theorem lessK_none {K : PySem.W.Frag} {a : Addr} : (lessK K a).lookup a = none := by
  unfold lessK
  induction K with
  | nil => rfl
  | cons p r ih =>
    obtain ⟨c, o⟩ := p
    rw [List.filter_cons]
    by_cases hc : c = a
    · subst hc
      simp only [bne_self_eq_false, Bool.false_eq_true, if_false]
      exact ih
    · have hn : (c != a) = true := by simpa using hc
      have hb : (a == c) = false := by simpa using fun z : a = c => hc z.symm
      rw [show (((c, o) : Addr × Obj).1 != a) = true from hn, if_pos rfl, List.lookup_cons, hb]
      exact ih
theorem lessK_sub {K : PySem.W.Frag} {a b : Addr} {o : Obj} (h : (lessK K a).lookup b = some o) : K.lookup b = some o := by
  by_cases e : b = a
  · subst e; rw [lessK_none] at h; cases h
  · rw [lessK_get e] at h; exact h
/-- what is no list stays -/
def Agree (K K' : PySem.W.Frag) : Prop := ∀ b o, K.lookup b = some o → (∀ its n, o.data = .seq its n → o.cls ≠ .type "list") → K'.lookup b = some o
theorem lessK_agree {K : PySem.W.Frag} {h : Heap} {a : Addr} {its : Array Value} {n : Nat} (X : K.In h) (e : h.get? a = some { cls := .type "list", data := .seq its n }) : Agree K (lessK K a) := fun b o hb hn => by
  by_cases z : b = a
  · subst z
    have := X b o hb
    rw [e] at this
    cases this
    exact absurd rfl (hn _ _ rfl)
  · rw [lessK_get z]; exact hb
theorem Agree.codeIn {K K' : PySem.W.Frag} (A : Agree K K') {cd : Value} {q : Str} (h : PySem.W.codeIn K cd q = true) : PySem.W.codeIn K' cd q = true := by
  unfold PySem.W.codeIn at h ⊢
  split at h
  · rename_i c
    split at h
    · rename_i cl dx vs sl ho
      rw [A c _ ho fun _ _ z => by cases z]
      exact h
    · cases h
  · cases h
theorem Agree.fun {K K' : PySem.W.Frag} (A : Agree K K') {x q : Str} {st : Stmt} {f : Addr} {fd : FuncData} (F : Fun K x q st f fd) : Fun K' x q st f fd := by
  obtain ⟨oc, od, kV, doc, pm, an, cdv, ct, osl, h1, h2, h3⟩ := F.ex
  have h2' := A f _ h2 fun _ _ z => by cases z
  refine ⟨⟨oc, od, kV, doc, pm, an, cdv, ct, osl, h1, h2', A.codeIn h3⟩, ?_⟩
  unfold PySem.W.keepIn
  simp only
  rw [h2']
/-- .. as a text's def stands, whatever K it is looked up in -/
structure DefIn (K : PySem.W.Frag) (mg : Str → Option Value) (Γ : Gm) (T : List Fd) (x : Str) (i : Nat) (ps : List Str) (m : Bool) : Prop where
  ex : ∃ (f : Addr) (fd : FuncData) (st : Stmt) (N mu : List Str) (cut : List Nat) (tr : Bool) (n : Nat), mg x = some (.ref f) ∧ Fun K x x st f fd ∧ FnScope N ps (defScope st) ∧
    (∀ (kV doc pm : Value) (an : Option Addr) (cdv ct : Value) (us : List Value), us.length = ps.length → bindArgs (PySem.W.fnOf x x (defArgs st) (defBody st) (defScope st) .none kV doc pm an cdv ct) ⟨us, []⟩ = pure (ps.zip us)) ∧
    T[i]? = some ⟨ps.length, N.length, m, tr, cB Γ N mu cut n (defScope st) (defBody st)⟩ ∧ (m = true → tr = false) ∧
    ∀ ks perm, (x, ks, perm) ∈ Γ.kws → ∀ (kV doc pm : Value) (an : Option Addr) (cdv ct : Value) (ws us : List Value), ws.length = ks.length → perm.mapM (fun i => ws[i]?) = some us → bindArgs (PySem.W.fnOf x x (defArgs st) (defBody st) (defScope st) .none kV doc pm an cdv ct) ⟨[], ks.zip ws⟩ = pure (ps.zip us)
theorem DefIn.ok {K K' : PySem.W.Frag} (A : Agree K K') {mg : Str → Option Value} {Γ : Gm} {T : List Fd} {x : Str} {i : Nat} {ps : List Str} {m : Bool} (h : DefIn K mg Γ T x i ps m) : DefOk K' mg Γ T x i ps m := by
  obtain ⟨f, fd, st, N, mu, cut, tr, n, h1, h2, h3, h4, h5, h6, h7⟩ := h.ex
  refine ⟨f, fd, st, N, mu, cut, tr, n, h1, A.fun h2, h3, (A.fun h2).binds h4, h5, h6, fun ks perm hm s ws us _ hl hp => ?_⟩
  obtain ⟨oc, od, kV, doc, pm, an, cdv, ct, osl, rfl, _⟩ := h2.ex
  exact .of_eq (h7 ks perm hm kV doc pm an cdv ct ws us hl hp)
/-- scalars that a module holds -/
inductive Sc : D → Value → Prop
  | int (i : Int) (t : Tok) : Sc (.int i) (.int i t)
  | bool (b : Bool) : Sc (.bool b) (.bool b)
  | str (x : Str) (t : Tok) : Sc (.str x) (.str x t)
  | none : Sc .none .none
structure TIn (K : PySem.W.Frag) (mg : Str → Option Value) (Γ : Gm) (T : List Fd) : Prop where
  defs : ∀ x i ps m, Γ.defs.lookup x = some (i, ps, m) → DefIn K mg Γ T x i ps m
  cons : ∀ x d, Γ.cons.lookup x = some d → ∃ u, mg x = some u ∧ Sc d u
  blts : ∀ x, Γ.blts.contains x = true → mg x = none
theorem TIn.ok {K K' : PySem.W.Frag} (A : Agree K K') {mg : Str → Option Value} {Γ : Gm} {T : List Fd} (h : TIn K mg Γ T) : TOk K' mg Γ T := by
  refine ⟨fun x i ps m e => (h.defs x i ps m e).ok A, fun x d e => ?_, h.blts⟩
  obtain ⟨u, h1, h2⟩ := h.cons x d e
  cases h2 with
  | int i t => exact ⟨.int i, _, h1, ⟨t, rfl⟩, .int i⟩
  | bool b => exact ⟨.bl b, _, h1, rfl, .bl b⟩
  | str x t => exact ⟨.str x, _, h1, ⟨t, rfl⟩, .str x⟩
  | none => exact ⟨.non, _, h1, rfl, .non⟩
theorem rp_ints {K : PySem.W.Frag} {F : Hp} : ∀ ns : List Int, RpAll K F (ns.map V.int) (ns.map PyData.int)
  | [] => .nil
  | n :: r => .cons (.int n) (rp_ints r)
section
variable {P : Program} {w : World} {K : PySem.W.Frag} {mg mb : Str → Option Value} {Γ : Gm} {T : List Fd} {W n i : Nat}
/-- the law at the heap that the top leaves -/
theorem law_at {fa a : Addr} {x : Str} {sh : Shared} {vs : List Value} {ns : List Int} {gs : List D} (KX : K.In sh.heap) (hns : sh.heap.Ns mainGlobals mg) (hb : sh.heap.Ns builtinsNs mb) (hbb : ∀ x : Str, x ≠ "__name__" → mb x = bootBuiltins x) (nol : sh.heap.NoLimit) (noG : sh.gens = #[])
    (obj : sh.heap.get? a = some { cls := .type "list", data := .seq vs.toArray }) (isI : IntsAre vs ns) (few : ns.length ≤ sizeLine) (room : Room n callerA) (t : TIn K mg Γ T) (hl : Γ.defs.lookup ("law" : Str) = some (i, [x], false)) (hfa : mg ("law" : Str) = some (.ref fa))
    (ans : CT T W n i [.list (ns.map .int)] = some (.bool true, gs)) :
    codeAny (model P w) callerA (.call (.ref fa) ⟨[.ref a], []⟩) (fun r s' => r = .ok (.ret (.bool true)) ∧ OldK sh.heap s'.heap ∧ s'.os = sh.os ∧ AllBare s'.gens) sh := by
  have vi := vals_ints isI
  let sc : Obj := { cls := .type "list", data := .seq vs.toArray }
  let H : Hp := fun b => if b = a then some (.frz sc (.lst (ns.map V.int))) else none
  have Ha : H a = some (.frz sc (.lst (ns.map V.int))) := if_pos rfl
  have Hn : ∀ {b}, b ≠ a → H b = none := fun {b} z => if_neg z
  have Hin : ∀ {b u}, H b = some u → b = a := fun {b u} e => Classical.byContradiction fun z => by rw [Hn z] at e; cases e
  have hok : HOk P w H sh.heap := fun b u e => by
    have := Hin e
    subst this
    rw [Ha] at e
    cases e
    exact ⟨obj, by rw [List.length_map]; exact few, vs, _, vi, obj⟩
  have dictOff : ∀ {b : Addr} {o : Obj} {es : Array DictEntry} {ep : Nat}, sh.heap.get? b = some o → o.data = .dict es ep → H b = none := fun {b o es ep} e d => by
    refine Hn fun z => ?_
    subst z
    rw [obj] at e; cases e
    cases (show Data.seq vs.toArray _ = Data.dict es ep from d)
  have ns' : ∀ {b : Addr} {m : Str → Option Value}, sh.heap.Ns b m → (hidT sh.heap H).Ns b m := fun {b m} ⟨o, es, ep, e, d, r⟩ => ⟨o, es, ep, hidT_get e (dictOff e d), d, r⟩
  have kb : (lessK K a).In (hidT sh.heap H) := fun b o e => hidT_get (KX b o (lessK_sub e)) (Hn fun z => by rw [z, lessK_none] at e; cases e)
  have md : Mod (lessK K a) mg (hidT sh.heap H) := ⟨kb, ns' hns, ⟨mb, ns' hb, hbb⟩, nol.elim fun mc q => ⟨mc, ns' q.1, q.2⟩⟩
  have e0 : Env0 P w (lessK K a) mg (hidT sh.heap H) callerA [] sh H := ⟨rfl, md, fun b o e => of_hidT e, Nat.le_of_eq (hidT_size _ _), trivial, fun b z => absurd (show b ∈ ([] : List Addr) from z) (by simp), hok, .of_eq noG⟩
  obtain ⟨f, fd, m1, _, bn, fg⟩ := (levels (P := P) (w := w) (base := hidT sh.heap H) (W := W) (t.ok (lessK_agree KX obj)) n).2 ("law" : Str) i [x] hl
  rw [hfa] at m1
  cases m1
  have bt : BindsTo sh fd ⟨[.ref a], []⟩ (([x] : List Str).zip [.ref a]) := bn sh [.ref a] (fun b o e => KX b o (lessK_sub e)) rfl
  have pre : spZ (lessK K a) (CT T W n i) (ZT T W n i) [.ref a] H (fun v H' => v = .bl true ∧ Same H H') E0 :=
    ⟨H, [.list (ns.map .int)], .bool true, gs, Same.refl _, .cons (.lst (.inr ⟨sc, Ha⟩) (rp_ints ns)) .nil, ans, fun v F' H' po hv _ => ⟨by cases hv; rfl, po.ff.trans po.fh⟩⟩
  refine codeAny_mono (fg.run callerA [] sh H ⟨[.ref a], []⟩ [.ref a] [.ref a] _ _ rfl room e0 bt (.cons rfl .nil) pre) fun res s' hres => ?_
  match res, hres with
  | .error e, hres => exact False.elim hres
  | .ok .next, hres => exact False.elim hres
  | .ok .brk, hres => exact False.elim hres
  | .ok .cont, hres => exact False.elim hres
  | .ok (.ret u), ⟨v, H', os, bare, un, hok', rv, q1, q2⟩ =>
    subst q1
    obtain rfl : u = Value.bool true := rv
    refine ⟨rfl, OldK.of_keep fun b o e => ?_, os, bare⟩
    by_cases hz : b = a
    · subst hz
      obtain ⟨e1, _⟩ := hok' b _ (q2 _ _ Ha)
      rw [obj] at e; cases e
      exact e1
    · exact un.keep b o e (Hn hz) (fun z => absurd (show b ∈ ([] : List Addr) from z) (by simp)) (by simp)
end
/-- the goal that the head leaves -/
theorem walk_at {l : PySem.W.OpenLaw} {most n i : Nat} {q : Program} {loose : List Str} {XP : (Str → Option Value) → Heap → Prop} {YP : World → Heap → Prop} {d : DefRec} {K : Params → PySem.W.Frag} {x : Str} {Γ : Gm} {T : List Fd} {W : Nat}
    (hm : l.most = some most) (few : most ≤ sizeLine) (plain : d.params.defaults = []) (nm : d.name = "law") (room : Room n callerA) (kin : ∀ (w : World) (h : Heap), YP w h → (K w.params).In h)
    (facts : ∀ (w : World) (mg : Str → Option Value) (h : Heap), (K w.params).In h → h.Ns mainGlobals mg → TIn (K w.params) mg Γ T) (hl : Γ.defs.lookup ("law" : Str) = some (i, [x], false))
    (ans : ∀ ns : List Int, ns.length ≤ most → ∃ gs, CT T W n i [.list (ns.map .int)] = some (.bool true, gs)) :
    PySem.W.WalkO q loose XP YP l.row.toRowW d [] (fun f vs => PySem.call f vs) := by
  refine Att.attach_call hm plain fun w s0 sh mg mb fa o pm cd doc a vs ns G Y ho hd hcd hmg obj isI len noG => ?_
  have KX := kin w _ Y
  obtain ⟨gs, an⟩ := ans ns len
  exact law_at KX G.T.g G.T.b G.T.builtins G.T.nolimit noG obj isI (Nat.le_trans len few) room (facts w mg _ KX G.T.g) hl (by rw [← nm]; exact hmg) an
end PD

/-! PD30: reckoning with the evaluator. -/
namespace PD
open PySem PySem.Spec PyProof.Rows L2
section
variable {T : List Fd} {W n i : Nat} {ds : List D} {fd : Fd}
theorem run_at (h : T[i]? = some fd) : runT T W (n + 1) i ds = bodyRun (CT T W n) (ZT T W n) W fd ds := by rw [runT_succ, h]; rfl
theorem ct_at (h : T[i]? = some fd) : CT T W (n + 1) i ds = getC (bodyRun (CT T W n) (ZT T W n) W fd ds) := by
  show getC (runT T W (n + 1) i ds) = _
  rw [run_at h]
theorem zt_at (h : T[i]? = some fd) : ZT T W (n + 1) i ds = getZ (bodyRun (CT T W n) (ZT T W n) W fd ds) := by
  show getZ (runT T W (n + 1) i ds) = _
  rw [run_at h]
/-- a plain def: its end -/
def finP : Fw → Option (D × List D)
  | .rt d _ _ => some (d, [])
  | .nx _ _ => some (.none, [])
  | _ => none
theorem ct_plain {np ns : Nat} {b : List Sm} (h : T[i]? = some ⟨np, ns, false, false, b⟩) (hl : ds.length = np) : CT T W (n + 1) i ds = (exB (CT T W n) (ZT T W n) W false b (ds.map .val ++ List.replicate (ns - np) .no) []).bind finP := by
  rw [ct_at h]
  have hp : pars false ds = some (ds.map Slot.val) := by cases ds <;> rfl
  simp only [bodyRun, getC, hl, if_true, hp, Option.bind_some, Bool.false_eq_true, if_false]
  cases exB (CT T W n) (ZT T W n) W false b (ds.map Slot.val ++ List.replicate (ns - np) Slot.no) [] with
  | none => rfl
  | some w => cases w <;> rfl
/-- .. one that changes its first argument -/
def finM : Fw → Option (D × List D)
  | .rt d _ e => (outG true e).map fun g => (d, g)
  | .nx e _ => (outG true e).map fun g => (.none, g)
  | _ => none
theorem ct_mut {np ns : Nat} {b : List Sm} {gs : List D} {dr : List D} (h : T[i]? = some ⟨np, ns, true, false, b⟩) (hl : dr.length + 1 = np) : CT T W (n + 1) i (.list gs :: dr) = (exB (CT T W n) (ZT T W n) W false b (.brw gs :: dr.map .val ++ List.replicate (ns - np) .no) []).bind finM := by
  rw [ct_at h]
  simp only [bodyRun, getC, List.length_cons, hl, if_true, pars, Option.bind_some, Bool.false_eq_true, if_false]
  show Option.map _ ((exB (CT T W n) (ZT T W n) W false b (.brw gs :: dr.map Slot.val ++ List.replicate (ns - np) Slot.no) []).bind _) = _
  cases exB (CT T W n) (ZT T W n) W false b (Slot.brw gs :: dr.map Slot.val ++ List.replicate (ns - np) Slot.no) [] with
  | none => rfl
  | some w =>
    cases w with
    | nx e l => simp only [Option.bind_some, endOf, finM, Option.map_map]; rfl
    | rt d b e => simp only [Option.bind_some, endOf, finM, Option.map_map]; rfl
    | bk e l => rfl
    | ct e l => rfl
/-- .. one that tells of the new -/
def finZ : Fw → Option (D × List D × Bool)
  | .rt d b _ => some (d, [], b)
  | .nx _ _ => some (.none, [], true)
  | _ => none
theorem run_tr {np ns : Nat} {b : List Sm} (h : T[i]? = some ⟨np, ns, false, true, b⟩) (hl : ds.length = np) : runT T W (n + 1) i ds = (exB (CT T W n) (ZT T W n) W true b (ds.map .val ++ List.replicate (ns - np) .no) (oldOf ds 0)).bind finZ := by
  rw [run_at h]
  have hp : pars false ds = some (ds.map Slot.val) := by cases ds <;> rfl
  simp only [bodyRun, hl, if_true, hp, Option.bind_some]
  cases exB (CT T W n) (ZT T W n) W true b (ds.map Slot.val ++ List.replicate (ns - np) Slot.no) (oldOf ds 0) with
  | none => rfl
  | some w => cases w <;> rfl
end
/-! ### comprehensions -/
theorem en_ext {e e' : En} (hl : e.length = e'.length) (h : ∀ j, slot e j = slot e' j) : e = e' := by
  apply List.ext_getElem hl
  intro j h1 h2
  have := h j
  unfold slot at this
  rw [List.getD_eq_getElem?_getD, List.getD_eq_getElem?_getD, List.getElem?_eq_getElem h1, List.getElem?_eq_getElem h2] at this
  exact this
theorem rest_wipe {e e' : En} {own : List Nat} (h : wipeE e' own = wipeE e own) : restE e e' own = e := by
  have hl : e'.length = e.length := by rw [← wipeE_length e' own, h, wipeE_length]
  refine en_ext (by rw [restE_length, hl]) fun j => ?_
  rw [slot_rest _ _ hl.symm]
  split
  · rfl
  · rename_i hj
    have := congrArg (fun z => slot z j) h
    simp only [slot_wipe, if_neg hj] at this
    exact this
section
variable {C : Nat → List D → Option (D × List D)} {own : List Nat} {tg : Tg} {ik : IK} {its ifs : List Ex} {elt : Ex} {env env1 : En} {ds : List D}
theorem compL_map {α : Type} {f : α → D} {o : α → Option D} : ∀ {l : List α} {e : En}, wipeE e own = wipeE env1 own → (∀ a ∈ l, ∃ e', turnC C own tg ifs elt (f a) env1 = some (o a, e') ∧ wipeE e' own = wipeE env1 own) →
    ∃ e', compL (turnC C own tg ifs elt) (l.map f) e = some (l.filterMap o, e') ∧ wipeE e' own = wipeE env1 own
  | [], e, he, _ => ⟨e, rfl, he⟩
  | a :: l, e, he, h => by
    obtain ⟨e1, h1, h2⟩ := h a List.mem_cons_self
    have h1' : turnC C own tg ifs elt (f a) e = some (o a, e1) := by
      rw [← h1]; unfold turnC; rw [he]
    obtain ⟨e2, h3, h4⟩ := compL_map (l := l) h2 fun b hb => h b (List.mem_cons_of_mem _ hb)
    refine ⟨e2, ?_, h4⟩
    rw [List.map_cons, compL, h1']
    simp only [Option.bind_some]
    rw [h3]
    cases ho : o a with
    | none => rw [List.filterMap_cons_none ho]; rfl
    | some d => rw [List.filterMap_cons_some ho]; rfl
theorem ev_comp {α : Type} {l : List α} {f : α → D} {o : α → Option D} (h1 : evL C its env = some (ds, env1)) (h2 : items ik ds = some (l.map f)) (h3 : noMut env1 own = true) (h4 : ∀ a ∈ l, ∃ e', turnC C own tg ifs elt (f a) env1 = some (o a, e') ∧ wipeE e' own = wipeE env1 own) :
    ev C (.comp own tg ik its ifs elt) env = some (.list (l.filterMap o), env1) := by
  obtain ⟨e2, h5, h6⟩ := compL_map (e := env1) rfl h4
  rw [ev, h1]
  simp only [Option.bind_some, h2, h3, if_true]
  show Option.map _ (compL (turnC C own tg ifs elt) (l.map f) env1) = _
  rw [h5]
  simp only [Option.map_some, rest_wipe h6]
theorem ev_compM {α : Type} {l : List α} {f o : α → D} (h1 : evL C its env = some (ds, env1)) (h2 : items ik ds = some (l.map f)) (h3 : noMut env1 own = true) (h4 : ∀ a ∈ l, ∃ e', turnC C own tg ifs elt (f a) env1 = some (some (o a), e') ∧ wipeE e' own = wipeE env1 own) :
    ev C (.comp own tg ik its ifs elt) env = some (.list (l.map o), env1) := by
  rw [ev_comp (o := fun a => some (o a)) h1 h2 h3 h4, ← List.filterMap_eq_map]; rfl
end
/-! ### loops -/
theorem forL_fold {α β : Type} {F : D → En → Fl → Option Fw} {f : α → D} {st : β → En → Fl → Prop} {step : β → α → β} : ∀ {l : List α} {b : β} {e : En} {fl : Fl}, (∀ b e fl a, a ∈ l → st b e fl → ∃ e' fl', F (f a) e fl = some (.nx e' fl') ∧ st (step b a) e' fl') → st b e fl →
    ∃ e' fl', forL F (l.map f) e fl = some (.nx e' fl') ∧ st (l.foldl step b) e' fl'
  | [], b, e, fl, _, h => ⟨e, fl, rfl, h⟩
  | a :: l, b, e, fl, hs, h => by
    obtain ⟨e1, fl1, h1, h2⟩ := hs b e fl a List.mem_cons_self h
    obtain ⟨e2, fl2, h3, h4⟩ := forL_fold (l := l) (fun b e fl c hc => hs b e fl c (List.mem_cons_of_mem _ hc)) h2
    refine ⟨e2, fl2, ?_, h4⟩
    rw [List.map_cons, forL, h1]
    exact h3
/-- .. counted -/
theorem forL_foldN {α β : Type} {F : D → En → Fl → Option Fw} {f : α → D} {st : Nat → β → En → Fl → Prop} {step : β → α → β} {M : Nat} : ∀ {l : List α} {c : Nat} {b : β} {e : En} {fl : Fl}, (∀ c b e fl a, c < M → a ∈ l → st c b e fl → ∃ e' fl', F (f a) e fl = some (.nx e' fl') ∧ st (c + 1) (step b a) e' fl') → st c b e fl → c + l.length ≤ M →
    ∃ e' fl', forL F (l.map f) e fl = some (.nx e' fl') ∧ st (c + l.length) (l.foldl step b) e' fl'
  | [], c, b, e, fl, _, h, _ => ⟨e, fl, rfl, h⟩
  | a :: l, c, b, e, fl, hs, h, hM => by
    rw [List.length_cons] at hM
    obtain ⟨e1, fl1, h1, h2⟩ := hs c b e fl a (by omega) List.mem_cons_self h
    obtain ⟨e2, fl2, h3, h4⟩ := forL_foldN (l := l) (fun c b e fl x hc hx => hs c b e fl x hc (List.mem_cons_of_mem _ hx)) h2 (by omega)
    refine ⟨e2, fl2, ?_, by rw [List.length_cons, show c + (l.length + 1) = c + 1 + l.length by omega]; exact h4⟩
    rw [List.map_cons, forL, h1]
    exact h3
/-- a loop that may return: p a where it goes on -/
theorem forL_find {α : Type} {F : D → En → Fl → Option Fw} {f : α → D} {st : En → Fl → Prop} {p : α → Bool} {r : α → D} {bf : Bool} : ∀ {l : List α} {e : En} {fl : Fl}, (∀ e fl a, a ∈ l → st e fl → (p a = true → ∃ e' fl', F (f a) e fl = some (.nx e' fl') ∧ st e' fl') ∧ (p a = false → ∃ e', F (f a) e fl = some (.rt (r a) bf e'))) → st e fl →
    match l.find? fun a => !p a with
    | none => ∃ e' fl', forL F (l.map f) e fl = some (.nx e' fl') ∧ st e' fl'
    | some a => ∃ e', forL F (l.map f) e fl = some (.rt (r a) bf e')
  | [], e, fl, _, h => ⟨e, fl, rfl, h⟩
  | a :: l, e, fl, hs, h => by
    obtain ⟨h1, h2⟩ := hs e fl a List.mem_cons_self h
    cases hp : p a with
    | true =>
      obtain ⟨e1, fl1, h3, h4⟩ := h1 hp
      have ih := forL_find (l := l) (bf := bf) (r := r) (fun e fl c hc => hs e fl c (List.mem_cons_of_mem _ hc)) h4
      rw [List.find?_cons_of_neg (by simp [hp]), List.map_cons, forL, h3]
      exact ih
    | false =>
      obtain ⟨e1, h3⟩ := h2 hp
      rw [List.find?_cons_of_pos (by simp [hp]), List.map_cons, forL, h3]
      exact ⟨e1, rfl⟩
section
variable {C : Nat → List D → Option (D × List D)} {Z : Nat → List D → Bool} {W : Nat} {tr : Bool} {s : Sm} {r : List Sm} {env e : En} {fl l : Fl}
theorem exB_nx (h : exS C Z W tr s env fl = some (.nx e l)) : exB C Z W tr (s :: r) env fl = exB C Z W tr r e l := by
  rw [exB, h]; rfl
theorem exB_rt {d : D} {b : Bool} (h : exS C Z W tr s env fl = some (.rt d b e)) : exB C Z W tr (s :: r) env fl = some (.rt d b e) := by
  rw [exB, h]; rfl
theorem for_eq {m : Md} {tg : Tg} {ik : IK} {its : List Ex} {body : List Sm} {ds xs : List D} {b : Bool} {env1 : En} {w : Fw} (h1 : evI C Z tr m its env fl = some (ds, b, env1)) (h2 : items ik ds = some xs)
    (h3 : forL (fun x e l => (asg tg x e).bind fun e1 => exB C Z W tr body e1 (updF tr (b && decide (ik = .seq)) tg x l)) xs env1 fl = some w) : exS C Z W tr (.for m tg ik its body) env fl = some w := by
  rw [exS, h1]
  simp only [Option.bind_some, h2]
  exact h3
theorem run_rt {d : D} {b : Bool} {p : List Sm} (h : exB C Z W tr p env fl = some (.rt d b e)) : (exB C Z W tr p env fl).bind finP = some (d, []) := by rw [h]; rfl
theorem run_nx {p : List Sm} (h : exB C Z W tr p env fl = some (.nx e l)) : (exB C Z W tr p env fl).bind finP = some (.none, []) := by rw [h]; rfl
theorem ite_eq {c : Ex} {p q : List Sm} {b : Bool} {env1 : En} (h : ev C c env = some (.bool b, env1)) : exS C Z W tr (.ite c p q) env fl = if b then exB C Z W tr p env1 fl else exB C Z W tr q env1 fl := by
  rw [exS, evC, h]
  rfl
theorem asg_eq {i : Nat} {p : Ex} {d : D} {env1 : En} (h : ev C p env = some (d, env1)) (hb : isBrw (slot env1 i) = false) (hl : i < env1.length) : exS C Z W false (.asg .plain (.nm i) p) env fl = some (.nx (env1.set i (.val d)) fl) := by
  rw [exS, evF, h]
  simp [asg, hb, hl, updF]
theorem ret_eq {p : Ex} {d : D} {env1 : En} (h : ev C p env = some (d, env1)) : exS C Z W false (.ret .plain p) env fl = some (.rt d false env1) := by
  rw [exS, evF, h]
  rfl
end
section
variable {C : Nat → List D → Option (D × List D)}
theorem evL1 {a : Ex} {env e1 : En} {d : D} (h : ev C a env = some (d, e1)) : evL C [a] env = some ([d], e1) := by
  rw [evL, h]; rfl
theorem prm1_eq {p : Pr} {a : Ex} {env e1 : En} {oa : Op} {da d : D} (ha : opd a (ev C a) env = some (oa, e1)) (h1 : rs e1 oa = some da) (h : pr1 p da = some d) : ev C (.prm p [a]) env = some (d, e1) := by
  rw [ev, evB, ha]
  simp only [Option.bind_some, evB, Option.map_some, rsL, h1, pr, h]
theorem prm2_eq {p : Pr} {a b : Ex} {env e1 e2 : En} {oa ob : Op} {da db d : D} (ha : opd a (ev C a) env = some (oa, e1)) (hb : opd b (ev C b) e1 = some (ob, e2)) (h1 : rs e2 oa = some da) (h2 : rs e2 ob = some db) (h : pr2 p da db = some d) : ev C (.prm p [a, b]) env = some (d, e2) := by
  rw [ev, evB, ha]
  simp only [Option.bind_some, evB, hb, Option.map_some, rsL, h1, h2, pr, h]
theorem opd_val {i : Nat} {env : En} {d : D} (h : slot env i = .val d) : opd (.var i) (ev C (.var i)) env = some (.inl d, env) := by
  simp [opd, h, isMut, ev, rdF]
theorem opd_ex {a : Ex} {env e1 : En} {d : D} (ha : ∀ i, a ≠ .var i) (h : ev C a env = some (d, e1)) : opd a (ev C a) env = some (.inl d, e1) := by
  have e : opd a (ev C a) env = (ev C a env).map fun p => (Sum.inl p.1, p.2) := by
    unfold opd
    cases a <;> first | rfl | exact absurd rfl (ha _)
  rw [e, h]; rfl
end
theorem log_le {k : Nat} {i : Int} (h : i.natAbs < 2 ^ k) : i.natAbs.log2 ≤ k := by
  by_cases z : i.natAbs = 0
  · rw [z]; simp
  · exact Nat.le_of_lt ((Nat.log2_lt z).mpr h)
end PD
namespace PD
open PySem PySem.Spec PyProof.Rows L2
/-- a def of the text in the table -/
theorem mkDef {K : PySem.W.Frag} {h : Heap} {mg : Str → Option Value} {Γ : Gm} {T : List Fd} {x : Str} {i : Nat} {ps N mu : List Str} {cut : List Nat} {m tr : Bool} {n : Nat} {st : Stmt} {f : Addr} {oc : Value} {od an : Option Addr} {osl : Array (Option Value)} {kV doc pm cdv ct : Value}
    (X : K.In h) (Gn : h.Ns mainGlobals mg) (a : PySem.W.nsIn K mainGlobals x = some (some (.ref f))) (l : K.lookup f = some ⟨oc, od, .func (PySem.W.fnOf x x (defArgs st) (defBody st) (defScope st) .none kV doc pm an cdv ct), osl⟩) (c : PySem.W.codeIn K cdv x = true) (k : PySem.W.keepIn K (.ref f) = true)
    (S : FnScope N ps (defScope st)) (bd : ∀ (kV doc pm : Value) (an : Option Addr) (cdv ct : Value) (us : List Value), us.length = ps.length → bindArgs (PySem.W.fnOf x x (defArgs st) (defBody st) (defScope st) .none kV doc pm an cdv ct) ⟨us, []⟩ = pure (ps.zip us))
    (t : T[i]? = some ⟨ps.length, N.length, m, tr, cB Γ N mu cut n (defScope st) (defBody st)⟩) (mt : m = true → tr = false)
    (kw : ∀ ks perm, (x, ks, perm) ∈ Γ.kws → ∀ (kV doc pm : Value) (an : Option Addr) (cdv ct : Value) (ws us : List Value), ws.length = ks.length → perm.mapM (fun i => ws[i]?) = some us → bindArgs (PySem.W.fnOf x x (defArgs st) (defBody st) (defScope st) .none kV doc pm an cdv ct) ⟨[], ks.zip ws⟩ = pure (ps.zip us)) :
    DefIn K mg Γ T x i ps m := ⟨f, _, st, N, mu, cut, tr, n, PySem.W.mg_of X Gn a, fun_mk l c k, S, bd, t, mt, kw⟩
end PD

namespace K56
open PySem PySem.Spec PyProof.Rows L2 PD
def topS (i : Nat) : Stmt := PySem.Challenge.pw_lotstell_k56_whole_even_rows.main.body.getD i (.Pass ⟨0, 0, 0, 0⟩)
def Γ : Gm := ⟨[("is_whole", 0, ["value"], false), ("lots_of", 1, ["many"], false), ("are_letters", 2, ["value", "many"], false), ("are_rows_by", 3, ["value"], false), ("check_rows", 4, ["rows"], false), ("letters_at", 5, ["row", "lot"], false), ("shown_by", 6, ["rows", "lot"], false), ("having", 7, ["rows", "lot", "letters"], false), ("is_even_at", 8, ["rows", "lot"], false), ("even_or_lot", 9, ["rows"], false), ("_law_hash", 10, ["seed", "index"], false), ("_law_random", 11, ["generator", "bound"], true), ("_law_cell", 12, ["script", "index"], false), ("_law_generator", 13, ["script", "index"], false), ("_law_same", 14, ["told", "due"], false), ("_law_lots", 15, ["many"], false), ("_law_letter_rows", 16, ["generator", "most", "wide"], true), ("_law_letters", 17, ["row", "lot"], false), ("_law_shown", 18, ["rows", "lot"], false), ("_law_having", 19, ["rows", "lot", "letters"], false), ("_law_first", 20, ["rows"], false), ("_law_right", 21, ["rows"], false), ("law", 22, ["script"], false)], [("MOST_THINGS", .int 5), ("MOST_ROWS", .int 12), ("MOST_LETTER", .int 9)], ["all", "bool", "enumerate", "int", "isinstance", "len", "list", "max", "range", "repr", "sorted", "str", "sum", "tuple"], [("even_or_lot", ["rows"], [0])]⟩
abbrev sis_whole : Stmt := topS 4
def cis_whole : List Sm := cB Γ ["value"] [] [] 60 (defScope sis_whole) (defBody sis_whole)
abbrev slots_of : Stmt := topS 7
def clots_of : List Sm := cB Γ ["many", "found", "thing", "_", "lot"] [] [] 60 (defScope slots_of) (defBody slots_of)
abbrev sare_letters : Stmt := topS 11
def care_letters : List Sm := cB Γ ["value", "many", "one"] [] [] 60 (defScope sare_letters) (defBody sare_letters)
abbrev sare_rows_by : Stmt := topS 12
def care_rows_by : List Sm := cB Γ ["value", "row"] [] [] 60 (defScope sare_rows_by) (defBody sare_rows_by)
abbrev scheck_rows : Stmt := topS 13
def ccheck_rows : List Sm := cB Γ ["rows"] [] [] 60 (defScope scheck_rows) (defBody scheck_rows)
abbrev sletters_at : Stmt := topS 14
def cletters_at : List Sm := cB Γ ["row", "lot", "thing"] [] [] 60 (defScope sletters_at) (defBody sletters_at)
abbrev sshown_by : Stmt := topS 15
def cshown_by : List Sm := cB Γ ["rows", "lot", "found", "row"] ["found"] [] 60 (defScope sshown_by) (defBody sshown_by)
abbrev shaving : Stmt := topS 16
def chaving : List Sm := cB Γ ["rows", "lot", "letters", "at", "row"] [] [] 60 (defScope shaving) (defBody shaving)
abbrev sis_even_at : Stmt := topS 17
def cis_even_at : List Sm := cB Γ ["rows", "lot", "counts", "letters", "count"] [] [] 60 (defScope sis_even_at) (defBody sis_even_at)
abbrev seven_or_lot : Stmt := topS 18
def ceven_or_lot : List Sm := cB Γ ["rows", "lot"] [] [52] 60 (defScope seven_or_lot) (defBody seven_or_lot)
abbrev s_law_hash : Stmt := topS 20
def c_law_hash : List Sm := cB Γ ["seed", "index", "mixed"] [] [] 60 (defScope s_law_hash) (defBody s_law_hash)
abbrev s_law_random : Stmt := topS 21
def c_law_random : List Sm := cB Γ ["generator", "bound", "drawn", "turn"] ["generator"] [] 60 (defScope s_law_random) (defBody s_law_random)
abbrev s_law_cell : Stmt := topS 22
def c_law_cell : List Sm := cB Γ ["script", "index"] [] [] 60 (defScope s_law_cell) (defBody s_law_cell)
abbrev s_law_generator : Stmt := topS 23
def c_law_generator : List Sm := cB Γ ["script", "index", "seed"] [] [75] 60 (defScope s_law_generator) (defBody s_law_generator)
abbrev s_law_same : Stmt := topS 24
def c_law_same : List Sm := cB Γ ["told", "due", "at"] [] [] 60 (defScope s_law_same) (defBody s_law_same)
abbrev s_law_lots : Stmt := topS 25
def c_law_lots : List Sm := cB Γ ["many", "found", "thing", "size", "lot"] [] [] 60 (defScope s_law_lots) (defBody s_law_lots)
abbrev s_law_letter_rows : Stmt := topS 26
def c_law_letter_rows : List Sm := cB Γ ["generator", "most", "wide", "rows", "many", "top", "row", "thing"] ["generator"] [] 60 (defScope s_law_letter_rows) (defBody s_law_letter_rows)
abbrev s_law_letters : Stmt := topS 27
def c_law_letters : List Sm := cB Γ ["row", "lot", "thing"] [] [] 60 (defScope s_law_letters) (defBody s_law_letters)
abbrev s_law_shown : Stmt := topS 28
def c_law_shown : List Sm := cB Γ ["rows", "lot", "found", "row"] [] [] 60 (defScope s_law_shown) (defBody s_law_shown)
abbrev s_law_having : Stmt := topS 29
def c_law_having : List Sm := cB Γ ["rows", "lot", "letters", "at", "row"] [] [] 60 (defScope s_law_having) (defBody s_law_having)
abbrev s_law_first : Stmt := topS 30
def c_law_first : List Sm := cB Γ ["rows", "lot", "counts", "letters", "count"] [] [] 60 (defScope s_law_first) (defBody s_law_first)
abbrev s_law_right : Stmt := topS 31
def c_law_right : List Sm := cB Γ ["rows", "kept", "due", "told"] [] [] 60 (defScope s_law_right) (defBody s_law_right)
abbrev slaw : Stmt := topS 32
def claw : List Sm := cB Γ ["script", "index", "generator", "sums", "some", "rows", "bits", "row"] ["generator"] [] 60 (defScope slaw) (defBody slaw)
end K56
namespace K56
open PySem PySem.Spec PyProof.Rows L2 PD
def bis_whole : List Sm :=
  [.ret .plain (.and (.prm (.isi "int") [(.var 0)]) (.not (.prm (.isi "bool") [(.var 0)])))]
theorem eis_whole : cis_whole = bis_whole := by kernel_rfl
def blots_of : List Sm :=
  [.asg .plain (.nm 1) (.lst [(.lst [])]), .for .plain (.nm 2) .rng1 [(.var 0)] [.asg .plain (.nm 1) (.prm .add [(.var 1), (.comp [4] (.nm 4) .seq [(.var 1)] [] (.prm .add [(.var 4), (.lst [(.var 2)])]))])], .ret .plain (.comp [3, 4] (.tp [(.nm 3), (.nm 4)]) .seq [(.prm .sorted [(.comp [4] (.nm 4) .seq [(.var 1)] [] (.tup [(.prm .len [(.var 4)]), (.var 4)]))])] [] (.var 4))]
theorem elots_of : clots_of = blots_of := by kernel_rfl
def bare_letters : List Sm :=
  [.ite (.or (.not (.prm (.isi "list") [(.var 0)])) (.prm .ne [(.prm .len [(.var 0)]), (.var 1)])) [.ret .plain (.con (.bool false))] [], .ret .plain (.prm .all [(.comp [2] (.nm 2) .seq [(.var 0)] [] (.and (.call 0 [] [(.var 2)]) (.chain .le .le (.con (.int (0))) (.var 2) (.con (.int (9))))))])]
theorem eare_letters : care_letters = bare_letters := by kernel_rfl
def bare_rows_by : List Sm :=
  [.ite (.or (.not (.prm (.isi "list") [(.var 0)])) (.or (.not (.chain .le .le (.con (.int (1))) (.prm .len [(.var 0)]) (.con (.int (12))))) (.not (.prm (.isi "list") [(.prm .ix [(.var 0), (.con (.int (0)))])])))) [.ret .plain (.con (.bool false))] [], .ite (.not (.chain .le .le (.con (.int (1))) (.prm .len [(.prm .ix [(.var 0), (.con (.int (0)))])]) (.con (.int (5))))) [.ret .plain (.con (.bool false))] [], .ret .plain (.prm .all [(.comp [1] (.nm 1) .seq [(.var 0)] [] (.call 2 [] [(.var 1), (.prm .len [(.prm .ix [(.var 0), (.con (.int (0)))])])]))])]
theorem eare_rows_by : care_rows_by = bare_rows_by := by kernel_rfl
def bcheck_rows : List Sm :=
  [.ite (.not (.call 3 [] [(.var 0)])) [.bad] []]
theorem echeck_rows : ccheck_rows = bcheck_rows := by kernel_rfl
def bletters_at : List Sm :=
  [.ret .plain (.comp [2] (.nm 2) .seq [(.var 1)] [] (.prm .ix [(.var 0), (.var 2)]))]
theorem eletters_at : cletters_at = bletters_at := by kernel_rfl
def bshown_by : List Sm :=
  [.own 2 [], .for .plain (.nm 3) .seq [(.var 0)] [.ite (.prm .notin [(.call 5 [] [(.var 3), (.var 1)]), (.var 2)]) [.app 2 (.call 5 [] [(.var 3), (.var 1)])] []], .ret .plain (.prm .sorted [(.var 2)])]
theorem eshown_by : cshown_by = bshown_by := by kernel_rfl
def bhaving : List Sm :=
  [.ret .plain (.comp [3, 4] (.tp [(.nm 3), (.nm 4)]) .enum [(.var 0)] [(.prm .eq [(.call 5 [] [(.var 4), (.var 1)]), (.var 2)])] (.var 3))]
theorem ehaving : chaving = bhaving := by kernel_rfl
def bis_even_at : List Sm :=
  [.asg .plain (.nm 2) (.comp [3] (.nm 3) .seq [(.call 6 [] [(.var 0), (.var 1)])] [] (.prm .len [(.call 7 [] [(.var 0), (.var 1), (.var 3)])])), .ret .plain (.prm .all [(.comp [4] (.nm 4) .seq [(.var 2)] [] (.prm .eq [(.var 4), (.prm .ix [(.var 2), (.con (.int (0)))])]))])]
theorem eis_even_at : cis_even_at = bis_even_at := by kernel_rfl
def beven_or_lot : List Sm :=
  [.ex (.call 4 [] [(.var 0)]), .for .call (.nm 1) .seq [(.call 1 [] [(.prm .len [(.prm .ix [(.var 0), (.con (.int (0)))])])])] [.ite (.not (.call 8 [] [(.var 0), (.var 1)])) [.ret .cut (.tup [(.con (.str "lot")), (.var 1)])] []], .ret .plain (.tup [(.con (.str "even"))])]
theorem eeven_or_lot : ceven_or_lot = beven_or_lot := by kernel_rfl
def b_law_hash : List Sm :=
  [.asg .plain (.nm 2) (.prm .mod [(.prm .int [(.prm .add [(.prm .add [(.prm .add [(.prm .mul [(.var 0), (.con (.int (1140671)))]), (.prm .mul [(.prm .mul [(.con (.int (27644437))), (.var 1)]), (.var 1)])]), (.prm .mul [(.con (.int (131))), (.var 1)])]), (.con (.int (19)))])]), (.con (.int (2147483629)))]), .asg .plain (.nm 2) (.prm .mod [(.prm .int [(.prm .add [(.prm .add [(.prm .mul [(.var 2), (.var 2)]), (.prm .mul [(.con (.int (62089))), (.var 1)])]), (.con (.int (32416187)))])]), (.con (.int (2147483587)))]), .ret .plain (.prm .mod [(.prm .int [(.prm .mul [(.var 2), (.con (.int (48271)))])]), (.con (.int (2147483647)))])]
theorem e_law_hash : c_law_hash = b_law_hash := by kernel_rfl
def b_law_random : List Sm :=
  [.ite (.prm .gt [(.prm .ix [(.var 0), (.con (.int (0)))]), (.con (.int (0)))]) [.asg .plain (.nm 2) (.prm .mod [(.prm .int [(.prm .ix [(.var 0), (.con (.int (0)))])]), (.var 1)]), .setix 0 (.con (.int (0))) (.prm .fdiv [(.prm .ix [(.var 0), (.con (.int (0)))]), (.var 1)]), .ret .plain (.var 2)] [], .asg .plain (.nm 2) (.con (.int (0))), .for .plain (.nm 3) .rng1 [(.prm .add [(.con (.int (1))), (.prm .fdiv [(.prm .mbits [(.var 1)]), (.con (.int (30)))])])] [.setix 0 (.con (.int (2))) (.prm .add [(.prm .ix [(.var 0), (.con (.int (2)))]), (.con (.int (1)))]), .asg .plain (.nm 2) (.prm .add [(.prm .mul [(.var 2), (.con (.int (2147483587)))]), (.call 10 [] [(.prm .ix [(.var 0), (.con (.int (1)))]), (.prm .ix [(.var 0), (.con (.int (2)))])])])], .ret .plain (.prm .mod [(.prm .int [(.var 2)]), (.var 1)])]
theorem e_law_random : c_law_random = b_law_random := by kernel_rfl
def b_law_cell : List Sm :=
  [.ite (.prm .lt [(.var 1), (.prm .len [(.var 0)])]) [.ret .plain (.prm .ix [(.var 0), (.var 1)])] [], .ret .plain (.prm .mod [(.prm .sum [(.prm (.sl false true) [(.var 0), (.con (.int (1)))])]), (.con (.int (1000003)))])]
theorem e_law_cell : c_law_cell = b_law_cell := by kernel_rfl
def b_law_generator : List Sm :=
  [.asg .call (.nm 2) (.call 12 [] [(.var 0), (.var 1)]), .ret .cut (.lst [(.prm .mod [(.prm .int [(.prm .max2 [(.prm .sub [(.var 2), (.prm .pow [(.con (.int (10))), (.con (.int (18)))])]), (.con (.int (0)))])]), (.prm .pow [(.prm .pow [(.con (.int (10))), (.con (.int (60)))]), (.con (.int (10)))])]), (.prm .mod [(.prm .int [(.var 2)]), (.con (.int (2147483647)))]), (.prm .mul [(.con (.int (1000))), (.var 1)])])]
theorem e_law_generator : c_law_generator = b_law_generator := by kernel_rfl
def b_law_same : List Sm :=
  [.ite (.or (.prm (.isi "tuple") [(.var 1)]) (.prm (.isi "list") [(.var 1)])) [.ite (.or (.prm .ne [(.prm (.isi "tuple") [(.var 0)]), (.prm (.isi "tuple") [(.var 1)])]) (.prm .ne [(.prm (.isi "list") [(.var 0)]), (.prm (.isi "list") [(.var 1)])])) [.ret .plain (.con (.bool false))] [], .ret .plain (.and (.prm .eq [(.prm .len [(.var 0)]), (.prm .len [(.var 1)])]) (.prm .eq [(.comp [2] (.nm 2) .rng1 [(.prm .len [(.var 1)])] [(.not (.call 14 [] [(.prm .ix [(.var 0), (.var 2)]), (.prm .ix [(.var 1), (.var 2)])]))] (.var 2)), (.lst [])]))] [], .ite (.or (.prm (.isi "bool") [(.var 1)]) (.prm (.isi "bool") [(.var 0)])) [.ret .plain (.ite (.prm .is [(.var 1), (.con (.bool true))]) (.prm .is [(.var 0), (.con (.bool true))]) (.ite (.prm .is [(.var 1), (.con (.bool false))]) (.prm .is [(.var 0), (.con (.bool false))]) (.con (.bool false))))] [], .ite (.prm (.isi "int") [(.var 1)]) [.ret .plain (.and (.prm (.isi "int") [(.var 0)]) (.prm .eq [(.var 0), (.var 1)]))] [], .ite (.prm (.isi "str") [(.var 1)]) [.ret .plain (.and (.prm (.isi "str") [(.var 0)]) (.prm .eq [(.var 0), (.var 1)]))] [], .ret .plain (.and (.prm .is [(.var 1), (.con .none)]) (.prm .is [(.var 0), (.con .none)]))]
theorem e_law_same : c_law_same = b_law_same := by kernel_rfl
def b_law_lots : List Sm :=
  [.asg .plain (.nm 1) (.lst [(.lst [])]), .for .plain (.nm 2) .rng1 [(.var 0)] [.asg .plain (.nm 1) (.prm .add [(.var 1), (.comp [4] (.nm 4) .seq [(.var 1)] [] (.prm .add [(.var 4), (.lst [(.var 2)])]))])], .ret .plain (.comp [3, 4] (.tp [(.nm 3), (.nm 4)]) .seq [(.prm .sorted [(.comp [4] (.nm 4) .seq [(.var 1)] [] (.tup [(.prm .len [(.var 4)]), (.var 4)]))])] [] (.var 4))]
theorem e_law_lots : c_law_lots = b_law_lots := by kernel_rfl
def b_law_letter_rows : List Sm :=
  [.asg .plain (.tp [(.nm 4), (.nm 5)]) (.tup [(.prm .add [(.con (.int (1))), (.callg 11 0 [(.var 2)])]), (.prm .add [(.con (.int (2))), (.callg 11 0 [(.con (.int (2)))])])]), .asg .plain (.nm 3) (.comp [6] (.nm 6) .rng1 [(.prm .add [(.con (.int (1))), (.callg 11 0 [(.var 1)])])] [] (.comp [7] (.nm 7) .rng1 [(.var 4)] [] (.callg 11 0 [(.var 5)]))), .ite (.and (.prm .eq [(.callg 11 0 [(.con (.int (3)))]), (.con (.int (0)))]) (.prm .gt [(.var 4), (.con (.int (1)))])) [.asg .plain (.nm 3) (.comp [6] (.nm 6) .seq [(.var 3)] [] (.prm .add [(.prm (.sl false true) [(.var 6), (.prm .neg [(.con (.int (1)))])]), (.lst [(.prm .mod [(.prm .int [(.prm .sum [(.prm (.sl false true) [(.var 6), (.prm .neg [(.con (.int (1)))])])])]), (.var 5)])])]))] [], .ret .plain (.var 3)]
theorem e_law_letter_rows : c_law_letter_rows = b_law_letter_rows := by kernel_rfl
def b_law_letters : List Sm :=
  [.ret .plain (.comp [2] (.nm 2) .seq [(.var 1)] [] (.prm .ix [(.var 0), (.var 2)]))]
theorem e_law_letters : c_law_letters = b_law_letters := by kernel_rfl
def b_law_shown : List Sm :=
  [.asg .plain (.nm 2) (.lst []), .for .plain (.nm 3) .seq [(.var 0)] [.asg .plain (.nm 2) (.prm .add [(.var 2), (.prm .mul [(.lst [(.call 17 [] [(.var 3), (.var 1)])]), (.prm .int [(.prm .notin [(.call 17 [] [(.var 3), (.var 1)]), (.var 2)])])])])], .ret .plain (.prm .sorted [(.var 2)])]
theorem e_law_shown : c_law_shown = b_law_shown := by kernel_rfl
def b_law_having : List Sm :=
  [.ret .plain (.comp [3, 4] (.tp [(.nm 3), (.nm 4)]) .enum [(.var 0)] [(.prm .eq [(.call 17 [] [(.var 4), (.var 1)]), (.var 2)])] (.var 3))]
theorem e_law_having : c_law_having = b_law_having := by kernel_rfl
def b_law_first : List Sm :=
  [.for .call (.nm 1) .seq [(.call 15 [] [(.prm .len [(.prm .ix [(.var 0), (.con (.int (0)))])])])] [.asg .plain (.nm 2) (.comp [3] (.nm 3) .seq [(.call 18 [] [(.var 0), (.var 1)])] [] (.prm .len [(.call 19 [] [(.var 0), (.var 1), (.var 3)])])), .ite (.prm .ne [(.comp [4] (.nm 4) .seq [(.var 2)] [(.prm .ne [(.var 4), (.prm .ix [(.var 2), (.con (.int (0)))])])] (.var 4)), (.lst [])]) [.ret .plain (.tup [(.con (.str "lot")), (.var 1)])] []], .ret .plain (.tup [(.con (.str "even"))])]
theorem e_law_first : c_law_first = b_law_first := by kernel_rfl
def b_law_right : List Sm :=
  [.par [1, 2, 3] [(.plain, (.prm .repr [(.var 0)])), (.call, (.call 20 [] [(.var 0)])), (.call, (.call 9 [] [(.var 0)]))], .ite (.not (.call 14 [] [(.lst [(.var 3), (.call 9 [0] [(.var 0)])]), (.lst [(.var 2), (.var 2)])])) [.ret .plain (.con (.bool false))] [], .ite (.prm .eq [(.prm .len [(.var 3)]), (.con (.int (2)))]) [.spoil (.prm .ix [(.var 3), (.con (.int (1)))]) "spoilt"] [], .ret .plain (.and (.call 14 [] [(.call 9 [] [(.var 0)]), (.call 20 [] [(.var 0)])]) (.prm .eq [(.prm .repr [(.var 0)]), (.var 1)]))]
theorem e_law_right : c_law_right = b_law_right := by kernel_rfl
def blaw : List Sm :=
  [.for .plain (.nm 1) .rng1 [(.con (.int (8)))] [.ownc 2 (.call 13 [] [(.var 0), (.var 1)]), .par [5, 6] [(.plain, (.callg 16 2 [(.con (.int (8))), (.con (.int (4)))])), (.plain, (.lst [(.lst [(.con (.int (0))), (.con (.int (0)))]), (.lst [(.con (.int (0))), (.con (.int (1)))]), (.lst [(.con (.int (1))), (.con (.int (0)))]), (.lst [(.con (.int (1))), (.con (.int (1)))])]))], .asg .plain (.nm 3) (.prm (.sl false true) [(.comp [7] (.nm 7) .seq [(.var 6)] [] (.prm .add [(.var 7), (.lst [(.prm .mod [(.prm .int [(.prm .sum [(.var 7)])]), (.con (.int (2)))])])])), (.ite (.prm .eq [(.prm .mod [(.var 1), (.con (.int (2)))]), (.con (.int (0)))]) (.con (.int (4))) (.con (.int (3))))]), .for .plain (.nm 4) .seq [(.lst [(.var 5), (.var 3), (.prm .mul [(.prm (.sl false true) [(.var 5), (.con (.int (1)))]), (.con (.int (2)))]), (.prm .add [(.var 5), (.prm (.sl false true) [(.var 5), (.con (.int (1)))])])])] [.ite (.not (.call 21 [] [(.var 4)])) [.ret .plain (.con (.bool false))] []]], .ret .plain (.and (.prm .eq [(.call 9 [] [(.lst [(.lst [(.con (.int (0))), (.con (.int (0)))]), (.lst [(.con (.int (0))), (.con (.int (1)))]), (.lst [(.con (.int (1))), (.con (.int (1)))])])]), (.tup [(.con (.str "lot")), (.lst [(.con (.int (0)))])])]) (.prm .eq [(.call 9 [] [(.prm .mul [(.lst [(.lst [(.con (.int (0)))])]), (.con (.int (12)))])]), (.tup [(.con (.str "even"))])]))]
theorem elaw : claw = blaw := by kernel_rfl
def T : List Fd := [⟨1, 1, false, false, bis_whole⟩, ⟨1, 5, false, false, blots_of⟩, ⟨2, 3, false, false, bare_letters⟩, ⟨1, 2, false, false, bare_rows_by⟩, ⟨1, 1, false, false, bcheck_rows⟩, ⟨2, 3, false, false, bletters_at⟩, ⟨2, 4, false, false, bshown_by⟩, ⟨3, 5, false, false, bhaving⟩, ⟨2, 5, false, false, bis_even_at⟩, ⟨1, 2, false, true, beven_or_lot⟩, ⟨2, 3, false, false, b_law_hash⟩, ⟨2, 4, true, false, b_law_random⟩, ⟨2, 2, false, false, b_law_cell⟩, ⟨2, 3, false, true, b_law_generator⟩, ⟨2, 3, false, false, b_law_same⟩, ⟨1, 5, false, false, b_law_lots⟩, ⟨3, 8, true, false, b_law_letter_rows⟩, ⟨2, 3, false, false, b_law_letters⟩, ⟨2, 4, false, false, b_law_shown⟩, ⟨3, 5, false, false, b_law_having⟩, ⟨1, 5, false, false, b_law_first⟩, ⟨1, 4, false, true, b_law_right⟩, ⟨1, 8, false, false, blaw⟩]
theorem nis_whole : FnScope ["value"] ["value"] (defScope sis_whole) := ⟨rfl, rfl, rfl, by decide +kernel, rfl, by decide +kernel, by decide +kernel⟩
theorem nlots_of : FnScope ["many", "found", "thing", "_", "lot"] ["many"] (defScope slots_of) := ⟨rfl, rfl, rfl, by decide +kernel, rfl, by decide +kernel, by decide +kernel⟩
theorem nare_letters : FnScope ["value", "many", "one"] ["value", "many"] (defScope sare_letters) := ⟨rfl, rfl, rfl, by decide +kernel, rfl, by decide +kernel, by decide +kernel⟩
theorem nare_rows_by : FnScope ["value", "row"] ["value"] (defScope sare_rows_by) := ⟨rfl, rfl, rfl, by decide +kernel, rfl, by decide +kernel, by decide +kernel⟩
theorem ncheck_rows : FnScope ["rows"] ["rows"] (defScope scheck_rows) := ⟨rfl, rfl, rfl, by decide +kernel, rfl, by decide +kernel, by decide +kernel⟩
theorem nletters_at : FnScope ["row", "lot", "thing"] ["row", "lot"] (defScope sletters_at) := ⟨rfl, rfl, rfl, by decide +kernel, rfl, by decide +kernel, by decide +kernel⟩
theorem nshown_by : FnScope ["rows", "lot", "found", "row"] ["rows", "lot"] (defScope sshown_by) := ⟨rfl, rfl, rfl, by decide +kernel, rfl, by decide +kernel, by decide +kernel⟩
theorem nhaving : FnScope ["rows", "lot", "letters", "at", "row"] ["rows", "lot", "letters"] (defScope shaving) := ⟨rfl, rfl, rfl, by decide +kernel, rfl, by decide +kernel, by decide +kernel⟩
theorem nis_even_at : FnScope ["rows", "lot", "counts", "letters", "count"] ["rows", "lot"] (defScope sis_even_at) := ⟨rfl, rfl, rfl, by decide +kernel, rfl, by decide +kernel, by decide +kernel⟩
theorem neven_or_lot : FnScope ["rows", "lot"] ["rows"] (defScope seven_or_lot) := ⟨rfl, rfl, rfl, by decide +kernel, rfl, by decide +kernel, by decide +kernel⟩
theorem n_law_hash : FnScope ["seed", "index", "mixed"] ["seed", "index"] (defScope s_law_hash) := ⟨rfl, rfl, rfl, by decide +kernel, rfl, by decide +kernel, by decide +kernel⟩
theorem n_law_random : FnScope ["generator", "bound", "drawn", "turn"] ["generator", "bound"] (defScope s_law_random) := ⟨rfl, rfl, rfl, by decide +kernel, rfl, by decide +kernel, by decide +kernel⟩
theorem n_law_cell : FnScope ["script", "index"] ["script", "index"] (defScope s_law_cell) := ⟨rfl, rfl, rfl, by decide +kernel, rfl, by decide +kernel, by decide +kernel⟩
theorem n_law_generator : FnScope ["script", "index", "seed"] ["script", "index"] (defScope s_law_generator) := ⟨rfl, rfl, rfl, by decide +kernel, rfl, by decide +kernel, by decide +kernel⟩
theorem n_law_same : FnScope ["told", "due", "at"] ["told", "due"] (defScope s_law_same) := ⟨rfl, rfl, rfl, by decide +kernel, rfl, by decide +kernel, by decide +kernel⟩
theorem n_law_lots : FnScope ["many", "found", "thing", "size", "lot"] ["many"] (defScope s_law_lots) := ⟨rfl, rfl, rfl, by decide +kernel, rfl, by decide +kernel, by decide +kernel⟩
theorem n_law_letter_rows : FnScope ["generator", "most", "wide", "rows", "many", "top", "row", "thing"] ["generator", "most", "wide"] (defScope s_law_letter_rows) := ⟨rfl, rfl, rfl, by decide +kernel, rfl, by decide +kernel, by decide +kernel⟩
theorem n_law_letters : FnScope ["row", "lot", "thing"] ["row", "lot"] (defScope s_law_letters) := ⟨rfl, rfl, rfl, by decide +kernel, rfl, by decide +kernel, by decide +kernel⟩
theorem n_law_shown : FnScope ["rows", "lot", "found", "row"] ["rows", "lot"] (defScope s_law_shown) := ⟨rfl, rfl, rfl, by decide +kernel, rfl, by decide +kernel, by decide +kernel⟩
theorem n_law_having : FnScope ["rows", "lot", "letters", "at", "row"] ["rows", "lot", "letters"] (defScope s_law_having) := ⟨rfl, rfl, rfl, by decide +kernel, rfl, by decide +kernel, by decide +kernel⟩
theorem n_law_first : FnScope ["rows", "lot", "counts", "letters", "count"] ["rows"] (defScope s_law_first) := ⟨rfl, rfl, rfl, by decide +kernel, rfl, by decide +kernel, by decide +kernel⟩
theorem n_law_right : FnScope ["rows", "kept", "due", "told"] ["rows"] (defScope s_law_right) := ⟨rfl, rfl, rfl, by decide +kernel, rfl, by decide +kernel, by decide +kernel⟩
theorem nlaw : FnScope ["script", "index", "generator", "sums", "some", "rows", "bits", "row"] ["script"] (defScope slaw) := ⟨rfl, rfl, rfl, by decide +kernel, rfl, by decide +kernel, by decide +kernel⟩
end K56
namespace K56
open PD
end K56

namespace K56
open PySem PD
/-- ints, rows, lots as data -/
def iD (l : List Int) : D := .list (l.map .int)
def rD (l : List (List Int)) : D := .list (l.map iD)
def at1 (row : List Int) (t : Int) : Int := row.getD t.toNat 0
def lettersI (row lot : List Int) : List Int := lot.map (at1 row)
def LotOk (m : Nat) (lot : List Int) : Prop := ∀ t ∈ lot, 0 ≤ t ∧ t < m
section
variable {W n : Nat}
theorem ixAt_in {len : Nat} {t : Int} (h : 0 ≤ t ∧ t < len) : ixAt len t = some t.toNat := by
  unfold ixAt L2.ixN
  rw [if_pos h.1, if_pos h.2]
theorem atD_int {row : List Int} {t : Int} (h : 0 ≤ t ∧ t < row.length) : atD (row.map .int) t = some (.int (at1 row t)) := by
  unfold atD
  rw [List.length_map, ixAt_in h, Option.bind_some, List.getElem?_map]
  have : t.toNat < row.length := by omega
  rw [List.getElem?_eq_getElem this]
  unfold at1
  rw [List.getD_eq_getElem?_getD, List.getElem?_eq_getElem this]; rfl
theorem letters_of {f : Nat} {b : List Sm} (hT : T[f]? = some ⟨2, 3, false, false, b⟩) (hb : b = bletters_at) {row lot : List Int} (h : LotOk row.length lot) (hz : lot.length ≤ 1000000) : CT T W (n + 1) f [iD row, iD lot] = some (iD (lettersI row lot), []) := by
  subst hb
  rw [ct_plain hT rfl]
  unfold bletters_at
  simp only [exB, exS, evF, List.map_cons, List.map_nil, List.replicate, List.cons_append, List.nil_append, Nat.reduceSub]
  rw [ev_compM (l := lot) (f := PyData.int) (o := fun t => .int (at1 row t)) (env1 := [.val (iD row), .val (iD lot), .no]) (ds := [iD lot])]
  · simp [finP, lettersI, iD]
  · simp [evL, ev, rdF, slot]
  · simp [items, jSeq, iD, sz, hz]
  · simp [noMut, slot, isMut]
  · intro t ht
    refine ⟨[.val (iD row), .val (iD lot), .val (.int t)], ?_, by simp [wipeE]⟩
    simp [turnC, asg, wipeE, slot, isBrw, evT, ev, evB, opd, isMut, rdF, rsL, rs, pr, pr2, qIx, iD]
    exact atD_int (h t ht)
theorem eqv_i (a b : List Int) : PyData.eqv (iD a) (iD b) = decide (a = b) := by
  show PyData.eqvAll (a.map .int) (b.map .int) = _
  induction a generalizing b with
  | nil => cases b <;> simp [PyData.eqvAll]
  | cons x a ih =>
    cases b with
    | nil => simp [PyData.eqvAll]
    | cons y b =>
      rw [List.map_cons, List.map_cons, PyData.eqvAll, ih, PyData.eqv]
      by_cases h : x = y <;> simp [h]
theorem lay_ints (a : List Int) : PyData.canLayAll0 (a.map .int) = true ∧ PyData.depthAll (a.map .int) = 0 := by
  induction a with
  | nil => exact ⟨rfl, rfl⟩
  | cons x a ih => rw [List.map_cons, PyData.canLayAll0, PyData.depthAll, ih.1, ih.2]; exact ⟨rfl, rfl⟩
theorem lay_rows (l : List (List Int)) : PyData.canLayAll0 (l.map iD) = true ∧ PyData.depthAll (l.map iD) ≤ 1 := by
  induction l with
  | nil => exact ⟨rfl, by simp [PyData.depthAll]⟩
  | cons x l ih =>
    rw [List.map_cons, PyData.canLayAll0, PyData.depthAll, ih.1]
    refine ⟨by simp [iD, PyData.canLay0, lay_ints], ?_⟩
    have : PyData.depth (iD x) = 1 := by simp [iD, PyData.depth, lay_ints]
    rw [this]; omega
theorem shaped_i (a : List Int) : SeqAt.shaped (iD a) = true := by simp [SeqAt.shaped, iD, PyData.canLay0, PyData.depth, lay_ints]
theorem shaped_r (l : List (List Int)) : SeqAt.shaped (rD l) = true := by
  have := lay_rows l
  simp [SeqAt.shaped, rD, PyData.canLay0, PyData.depth, this.1]; omega
theorem any_rows (l : List (List Int)) (a : List Int) : ((l.map iD).any fun z => PyData.eqv z (iD a)) = decide (a ∈ l) := by
  induction l with
  | nil => simp
  | cons x l ih =>
    rw [List.map_cons, List.any_cons, ih, eqv_i]
    by_cases h : x = a
    · simp [h]
    · have : ¬ a = x := fun z => h z.symm
      simp [h, this]
theorem notin_rows (l : List (List Int)) (a : List Int) : qNotin (iD a) (rD l) = some (.bool (!decide (a ∈ l))) := by
  unfold qNotin rD
  simp only [eqOk, shaped_i, show SeqAt.shaped (.list (l.map iD)) = true from shaped_r l, Bool.and_self, if_true, any_rows]
/-- the letters shown, each once -/
def shownStep (lot : List Int) (found : List (List Int)) (row : List Int) : List (List Int) := if lettersI row lot ∈ found then found else found ++ [lettersI row lot]
def shownI (rows : List (List Int)) (lot : List Int) : List (List Int) := rows.foldl (shownStep lot) []
theorem shown_len (lot : List Int) : ∀ (rows found : List (List Int)), (rows.foldl (shownStep lot) found).length ≤ found.length + rows.length
  | [], _ => by simp
  | r :: rows, found => by
    rw [List.foldl_cons]
    have := shown_len lot rows (shownStep lot found r)
    have h : (shownStep lot found r).length ≤ found.length + 1 := by
      unfold shownStep
      split <;> simp
    rw [List.length_cons]; omega
/-- what sorted answers for a list of lists of ints -/
theorem alike_ints : ∀ a b : List Int, PySem.W.alikeAll (a.map .int) (b.map .int) = true
  | [], b => by rw [List.map_nil, PySem.W.alikeAll]
  | x :: a, [] => by rw [List.map_cons, List.map_nil, PySem.W.alikeAll]
  | x :: a, y :: b => by rw [List.map_cons, List.map_cons, PySem.W.alikeAll, alike_ints a b, PySem.W.alike]; rfl
def unI : D → List Int
  | .list ds => ds.filterMap fun d => match d with
    | .int i => some i
    | _ => none
  | _ => []
theorem unI_i (a : List Int) : unI (iD a) = a := by
  show (a.map PyData.int).filterMap _ = a
  rw [List.filterMap_map]
  exact List.filterMap_some
theorem sorted_rows (l : List (List Int)) (hz : l.length ≤ 1000) : ∃ s : List (List Int), qSorted (rD l) = some (rD s) ∧ s.Perm l ∧ sortD (l.map iD) = s.map iD := by
  have hp : (sortD (l.map iD)).Perm (l.map iD) := List.mergeSort_perm _ _
  have : ∃ s : List (List Int), sortD (l.map iD) = s.map iD ∧ s.Perm l := by
    have gen : ∀ (m : List D), m.Perm (l.map iD) → ∃ s : List (List Int), m = s.map iD ∧ s.Perm l := fun m hm => by
      have hmem : ∀ d ∈ m, ∃ a, d = iD a := fun d hd => by
        obtain ⟨a, _, e⟩ := List.mem_map.mp (hm.mem_iff.mp hd)
        exact ⟨a, e.symm⟩
      have : ∃ s : List (List Int), m = s.map iD := by
        clear hm
        induction m with
        | nil => exact ⟨[], rfl⟩
        | cons d m ih =>
          obtain ⟨a, rfl⟩ := hmem d List.mem_cons_self
          obtain ⟨s, rfl⟩ := ih fun d hd => hmem d (List.mem_cons_of_mem _ hd)
          exact ⟨a :: s, rfl⟩
      obtain ⟨s, rfl⟩ := this
      have q := hm.map unI
      rw [List.map_map, List.map_map] at q
      have e : (unI ∘ iD) = id := funext fun a => unI_i a
      rw [e, List.map_id, List.map_id] at q
      exact ⟨s, rfl, q⟩
    exact gen _ hp
  obtain ⟨s, h1, h2⟩ := this
  refine ⟨s, ?_, h2, h1⟩
  have a1 : allAlike (l.map iD) = true := by
    unfold allAlike
    rw [List.all_eq_true]
    intro x hx
    rw [List.all_eq_true]
    intro y hy
    obtain ⟨a, _, rfl⟩ := List.mem_map.mp hx
    obtain ⟨b, _, rfl⟩ := List.mem_map.mp hy
    show PySem.W.alikeAll _ _ = true
    exact alike_ints a b
  have a2 : sortableD (l.map iD) = true := by
    unfold sortableD
    rw [Bool.or_eq_true]
    refine .inr ?_
    rw [List.all_eq_true]
    intro x hx
    obtain ⟨a, _, rfl⟩ := List.mem_map.mp hx
    rfl
  unfold rD qSorted
  simp only [a1, a2, Bool.and_self, Bool.true_and, List.length_map]
  rw [if_pos, h1]
  have := lay_rows l
  simp [sz]; omega
theorem shown_of {rows : List (List Int)} {lot : List Int} (h : ∀ r ∈ rows, LotOk r.length lot) (hz : lot.length ≤ 1000) (hr : rows.length ≤ 500) : ∃ s : List (List Int), CT T W (n + 2) 6 [rD rows, iD lot] = some (rD s, []) ∧ s.Perm (shownI rows lot) ∧ sortD ((shownI rows lot).map iD) = s.map iD := by
  have hlen := shown_len lot rows []
  obtain ⟨s, h1, h2, h3⟩ := sorted_rows (shownI rows lot) (by unfold shownI; simp at hlen; omega)
  refine ⟨s, ?_, h2, h3⟩
  rw [ct_plain (T := T) (i := 6) (b := bshown_by) rfl rfl]
  unfold bshown_by
  have hcall : ∀ r ∈ rows, CT T W (n + 1) 5 [iD r, iD lot] = some (iD (lettersI r lot), []) := fun r hr => letters_of (f := 5) rfl rfl (h r hr) (by omega)
  let st : Nat → List (List Int) → En → Fl → Prop := fun c found e fl => (∃ s3, e = [.val (rD rows), .val (iD lot), .own (found.map iD), s3] ∧ isMut s3 = false) ∧ fl = [] ∧ found.length ≤ c
  let Fn : D → En → Fl → Option Fw := fun x e l => (asg (.nm 3) x e).bind fun e1 => exB (CT T W (n + 1)) (ZT T W (n + 1)) W false [.ite (.prm .notin [(.call 5 [] [(.var 3), (.var 1)]), (.var 2)]) [.app 2 (.call 5 [] [(.var 3), (.var 1)])] []] e1 (updF false (false && decide (IK.seq = IK.seq)) (.nm 3) x l)
  have step : ∀ c b e fl a, c < 500 → a ∈ rows → st c b e fl → ∃ e' fl', Fn (iD a) e fl = some (.nx e' fl') ∧ st (c + 1) (shownStep lot b a) e' fl' := fun c b e fl a hc ha hs => by
    obtain ⟨⟨s3, rfl, m3⟩, rfl, hl⟩ := hs
    have hb : isBrw s3 = false := by cases s3 <;> first | rfl | cases m3
    have nin := notin_rows b (lettersI a lot)
    by_cases hin : lettersI a lot ∈ b
    · refine ⟨[.val (rD rows), .val (iD lot), .own (b.map iD), .val (iD a)], [], ?_, ⟨⟨_, by unfold shownStep; rw [if_pos hin], rfl⟩, rfl, by unfold shownStep; rw [if_pos hin]; omega⟩⟩
      rw [decide_eq_true hin] at nin
      simp [Fn, asg, slot, hb, exB, exS, evC, ev, evB, opd, evL, rdF, permL, hcall a ha, isMut, rsL, rs, pr, pr2, rD] at nin ⊢
      simp [nin, isTrueD, updF, exB]
    · refine ⟨[.val (rD rows), .val (iD lot), .own ((b ++ [lettersI a lot]).map iD), .val (iD a)], [], ?_, ⟨⟨_, by unfold shownStep; rw [if_neg hin], rfl⟩, rfl, by unfold shownStep; rw [if_neg hin]; simp; omega⟩⟩
      rw [decide_eq_false hin] at nin
      simp [Fn, asg, slot, hb, exB, exS, evC, ev, evB, opd, evL, rdF, permL, hcall a ha, isMut, rsL, rs, pr, pr2, rD] at nin ⊢
      simp [nin, isTrueD, updF, exB, exS, isMut, slot, ev, evL, rdF, permL, hcall a ha, sz, show b.length ≤ 1000000 by omega]
  obtain ⟨e', fl', g1, ⟨⟨s3, g2, g4⟩, g3, _⟩⟩ := forL_foldN (f := iD) (l := rows) (c := 0) (b := []) (e := [.val (rD rows), .val (iD lot), .own [], .no]) (fl := []) step ⟨⟨.no, rfl, rfl⟩, rfl, by simp⟩ (by omega)
  subst g2 g3
  rw [exB_nx (e := [.val (rD rows), .val (iD lot), .own [], .no]) (l := []) (by simp [exS, evL, slot, isBrw, rmF])]
  rw [exB_nx (for_eq (ds := [rD rows]) (xs := rows.map iD) (b := false) (env1 := [.val (rD rows), .val (iD lot), .own [], .no]) (by simp [evI, evL, ev, rdF, slot]) (by simp [items, jSeq, sz, rD, show rows.length ≤ 1000000 by omega]) g1)]
  rw [exB_rt (ret_eq (d := rD s) (env1 := [.val (rD rows), .val (iD lot), .own ((shownI rows lot).map iD), s3]) (by
    rw [ev]
    simp only [evB, opd, slot, List.getD_cons_succ, List.getD_cons_zero, isMut, if_true, Option.bind_some, Option.map_some, rsL, rs]
    show Option.map _ (qSorted (rD (shownI rows lot))) = _
    rw [h1]
    rfl))]
  rfl
/-- the same by the law's own words -/
theorem mul_one (a : List Int) (b : Bool) : qMul (.list [iD a]) (.int (if b then 1 else 0)) = some (rD (if b then [a] else [])) := by
  cases b <;> simp [qMul, rD]
theorem add_rows (a b : List (List Int)) (h : a.length + b.length ≤ 1000000) : qAdd (rD a) (rD b) = some (rD (a ++ b)) := by
  simp [qAdd, rD, sz, h]
theorem lshown_of {rows : List (List Int)} {lot : List Int} (h : ∀ r ∈ rows, LotOk r.length lot) (hz : lot.length ≤ 1000) (hr : rows.length ≤ 500) : ∃ s : List (List Int), CT T W (n + 2) 18 [rD rows, iD lot] = some (rD s, []) ∧ s.Perm (shownI rows lot) ∧ sortD ((shownI rows lot).map iD) = s.map iD := by
  have hlen := shown_len lot rows []
  obtain ⟨s, h1, h2, h3⟩ := sorted_rows (shownI rows lot) (by unfold shownI; simp at hlen; omega)
  refine ⟨s, ?_, h2, h3⟩
  rw [ct_plain (T := T) (i := 18) (b := b_law_shown) rfl rfl]
  unfold b_law_shown
  have hcall : ∀ r ∈ rows, CT T W (n + 1) 17 [iD r, iD lot] = some (iD (lettersI r lot), []) := fun r hr => letters_of (f := 17) rfl rfl (h r hr) (by omega)
  let st : Nat → List (List Int) → En → Fl → Prop := fun c found e fl => (∃ s3, e = [.val (rD rows), .val (iD lot), .val (rD found), s3] ∧ isMut s3 = false) ∧ fl = [] ∧ found.length ≤ c
  let Fn : D → En → Fl → Option Fw := fun x e l => (asg (.nm 3) x e).bind fun e1 => exB (CT T W (n + 1)) (ZT T W (n + 1)) W false [.asg .plain (.nm 2) (.prm .add [(.var 2), (.prm .mul [(.lst [(.call 17 [] [(.var 3), (.var 1)])]), (.prm .int [(.prm .notin [(.call 17 [] [(.var 3), (.var 1)]), (.var 2)])])])])] e1 (updF false (false && decide (IK.seq = IK.seq)) (.nm 3) x l)
  have step : ∀ c b e fl a, c < 500 → a ∈ rows → st c b e fl → ∃ e' fl', Fn (iD a) e fl = some (.nx e' fl') ∧ st (c + 1) (shownStep lot b a) e' fl' := fun c b e fl a hc ha hs => by
    obtain ⟨⟨s3, rfl, m3⟩, rfl, hl⟩ := hs
    have hb : isBrw s3 = false := by cases s3 <;> first | rfl | cases m3
    have nin := notin_rows b (lettersI a lot)
    have e0 : shownStep lot b a = b ++ (if !decide (lettersI a lot ∈ b) then [lettersI a lot] else []) := by
      unfold shownStep
      by_cases hin : lettersI a lot ∈ b <;> simp [hin]
    have hle : (if !decide (lettersI a lot ∈ b) then [lettersI a lot] else []).length ≤ 1 := by split <;> simp
    refine ⟨[.val (rD rows), .val (iD lot), .val (rD (shownStep lot b a)), .val (iD a)], [], ?_, ⟨⟨_, rfl, rfl⟩, rfl, by rw [e0, List.length_append]; omega⟩⟩
    have m1 := mul_one (lettersI a lot) (!decide (lettersI a lot ∈ b))
    have m2 := add_rows b (if !decide (lettersI a lot ∈ b) then [lettersI a lot] else []) (by omega)
    rw [← e0] at m2
    have q : ev (CT T W (n + 1)) (.prm .add [(.var 2), (.prm .mul [(.lst [(.call 17 [] [(.var 3), (.var 1)])]), (.prm .int [(.prm .notin [(.call 17 [] [(.var 3), (.var 1)]), (.var 2)])])])]) [.val (rD rows), .val (iD lot), .val (rD b), .val (iD a)] = some (rD (shownStep lot b a), [.val (rD rows), .val (iD lot), .val (rD b), .val (iD a)]) := by
      simp only [ev, evB, opd, evL, slot, List.getD_cons_succ, List.getD_cons_zero, rdF, isMut, Bool.false_eq_true, if_false, Option.bind_some, Option.map_some, permL, hcall a ha, rsL, rs, pr, pr2, pr1, nin, qInt, m1, m2]
    have q2 := asg_eq (C := CT T W (n + 1)) (Z := ZT T W (n + 1)) (W := W) (fl := []) (i := 2) q rfl (by simp)
    show Option.bind (asg (.nm 3) (iD a) [.val (rD rows), .val (iD lot), .val (rD b), s3]) _ = _
    rw [show asg (.nm 3) (iD a) [.val (rD rows), .val (iD lot), .val (rD b), s3] = some [.val (rD rows), .val (iD lot), .val (rD b), .val (iD a)] by simp [asg, slot, hb]]
    exact exB_nx (r := []) q2
  obtain ⟨e', fl', g1, ⟨⟨s3, g2, g4⟩, g3, _⟩⟩ := forL_foldN (f := iD) (l := rows) (c := 0) (b := []) (e := [.val (rD rows), .val (iD lot), .val (rD []), .no]) (fl := []) step ⟨⟨.no, rfl, rfl⟩, rfl, by simp⟩ (by omega)
  subst g2 g3
  have q0 : ev (CT T W (n + 1)) (.lst []) [.val (rD rows), .val (iD lot), .no, .no] = some (rD [], [.val (rD rows), .val (iD lot), .no, .no]) := rfl
  refine run_rt (b := false) (e := [.val (rD rows), .val (iD lot), .val (rD (shownI rows lot)), s3]) ?_
  refine (exB_nx (e := [.val (rD rows), .val (iD lot), .val (rD []), .no]) (l := []) (asg_eq (fl := []) (i := 2) q0 rfl (by simp))).trans ?_
  refine (exB_nx (for_eq (ds := [rD rows]) (xs := rows.map iD) (b := false) (env1 := [.val (rD rows), .val (iD lot), .val (rD []), .no]) (by simp [evI, evL, ev, rdF, slot]) (by simp [items, jSeq, sz, rD, show rows.length ≤ 1000000 by omega]) g1)).trans ?_
  refine exB_rt (ret_eq (d := rD s) (env1 := [.val (rD rows), .val (iD lot), .val (rD (shownI rows lot)), s3]) ?_)
  rw [ev]
  simp only [evB, opd, ev, rdF, slot, List.getD_cons_succ, List.getD_cons_zero, isMut, Bool.false_eq_true, if_false, Option.bind_some, Option.map_some, rsL, rs]
  show Option.map _ (qSorted (rD (shownI rows lot))) = _
  rw [h1]
  rfl
end
end K56

namespace K56
open PySem PD
section
variable {W n : Nat}
theorem eq_i (a b : List Int) : qEq (iD a) (iD b) = some (.bool (decide (a = b))) := by
  unfold qEq
  rw [if_pos (by simp [eqOk, shaped_i]), eqv_i]
theorem enum_rows (rows : List (List Int)) : enumD (rows.map iD) = ((List.range rows.length).zip rows).map fun p => PyData.tuple [.int (p.1 : Nat), iD p.2] := by
  unfold enumD
  rw [List.length_map]
  generalize List.range rows.length = l
  induction l generalizing rows with
  | nil => rfl
  | cons i l ih =>
    cases rows with
    | nil => rfl
    | cons r rows => rw [List.map_cons, List.zipWith_cons_cons, List.zip_cons_cons, List.map_cons, ih]
/-- which rows have these letters -/
def havI (rows : List (List Int)) (lot letters : List Int) : List D := ((List.range rows.length).zip rows).filterMap fun p => if lettersI p.2 lot = letters then some (.int (p.1 : Nat)) else none
theorem having_of {f : Nat} {b : List Sm} (g : Nat) (hT : T[f]? = some ⟨3, 5, false, false, b⟩) (hb : b = [.ret .plain (.comp [3, 4] (.tp [(.nm 3), (.nm 4)]) .enum [(.var 0)] [(.prm .eq [(.call g [] [(.var 4), (.var 1)]), (.var 2)])] (.var 3))])
    {rows : List (List Int)} {lot letters : List Int} (hcall : ∀ r ∈ rows, CT T W n g [iD r, iD lot] = some (iD (lettersI r lot), [])) (hr : rows.length ≤ 500) :
    CT T W (n + 1) f [rD rows, iD lot, iD letters] = some (.list (havI rows lot letters), []) := by
  subst hb
  rw [ct_plain hT rfl]
  refine run_rt (b := false) (e := [.val (rD rows), .val (iD lot), .val (iD letters), .no, .no]) (exB_rt (ret_eq ?_))
  refine ev_comp (l := (List.range rows.length).zip rows) (f := fun p => PyData.tuple [.int (p.1 : Nat), iD p.2]) (o := fun p => if lettersI p.2 lot = letters then some (.int (p.1 : Nat)) else none) (ds := [rD rows]) ?_ ?_ ?_ fun p hp => ?_
  · simp [evL, ev, rdF, slot]
  · rw [← enum_rows]
    simp [items, jEnum, rD, sz, show rows.length ≤ 1000000 by omega]
  · simp [noMut, slot, isMut]
  · have hm := (List.of_mem_zip hp).2
    refine ⟨[.val (rD rows), .val (iD lot), .val (iD letters), .val (.int (p.1 : Nat)), .val (iD p.2)], ?_, by simp [wipeE]⟩
    have q := eq_i (lettersI p.2 lot) letters
    have q2 : evT (CT T W n) [(.prm .eq [(.call g [] [(.var 4), (.var 1)]), (.var 2)])] [.val (rD rows), .val (iD lot), .val (iD letters), .val (.int (p.1 : Nat)), .val (iD p.2)] = some (decide (lettersI p.2 lot = letters), [.val (rD rows), .val (iD lot), .val (iD letters), .val (.int (p.1 : Nat)), .val (iD p.2)]) := by
      simp only [evT, ev, evB, opd, evL, slot, List.getD_cons_succ, List.getD_cons_zero, rdF, isMut, Bool.false_eq_true, if_false, Option.bind_some, Option.map_some, permL, hcall _ hm, rsL, rs, pr, pr2, q, isTrueD]
      by_cases h : lettersI p.2 lot = letters <;> simp [h]
    have q3 : asg (.tp [.nm 3, .nm 4]) (PyData.tuple [.int (p.1 : Nat), iD p.2]) (wipeE [.val (rD rows), .val (iD lot), .val (iD letters), .no, .no] [3, 4]) = some [.val (rD rows), .val (iD lot), .val (iD letters), .val (.int (p.1 : Nat)), .val (iD p.2)] := by
      simp [asg, asgs, wipeE, slot, isBrw]
    unfold turnC
    rw [q3]
    simp only [Option.bind_some, q2]
    by_cases h : lettersI p.2 lot = letters
    · simp [h, ev, rdF, slot]
    · simp [h]
/-- how many rows have the letters, for all that are shown -/
def shI (rows : List (List Int)) (lot : List Int) : List (List Int) := (sortD ((shownI rows lot).map iD)).map unI
def cntI (rows : List (List Int)) (lot : List Int) : List Int := (shI rows lot).map fun l => ((havI rows lot l).length : Int)
theorem shI_eq {rows s : List (List Int)} {lot : List Int} (h : sortD ((shownI rows lot).map iD) = s.map iD) : shI rows lot = s := by
  unfold shI
  rw [h, List.map_map, show (unI ∘ iD) = id from funext fun a => unI_i a, List.map_id]
theorem shI_len {rows : List (List Int)} {lot : List Int} : (shI rows lot).length ≤ rows.length := by
  unfold shI sortD
  rw [List.length_map, List.length_mergeSort, List.length_map]
  have := shown_len lot rows []
  simpa [shownI] using this
/-- counts = [len(having(rows, lot, letters)) for letters in shown(rows, lot)] -/
theorem counts_of {gs gh : Nat} {k : Nat} {rows : List (List Int)} {lot : List Int} {rest : En} (hr : rows.length ≤ 500)
    (hs : CT T W n gs [rD rows, iD lot] = some (rD (shI rows lot), [])) (hh : ∀ l, CT T W n gh [rD rows, iD lot, iD l] = some (.list (havI rows lot l), [])) :
    ev (CT T W n) (.comp [3] (.nm 3) .seq [(.call gs [] [(.var 0), (.var 1)])] [] (.prm .len [(.call gh [] [(.var 0), (.var 1), (.var 3)])])) [.val (rD rows), .val (iD lot), .no, .no, .no] = some (iD (cntI rows lot), [.val (rD rows), .val (iD lot), .no, .no, .no]) := by
  have e := ev_compM (C := CT T W n) (own := [3]) (tg := .nm 3) (ik := .seq) (its := [(.call gs [] [(.var 0), (.var 1)])]) (ifs := []) (elt := .prm .len [(.call gh [] [(.var 0), (.var 1), (.var 3)])]) (env := [.val (rD rows), .val (iD lot), .no, .no, .no]) (env1 := [.val (rD rows), .val (iD lot), .no, .no, .no])
    (l := shI rows lot) (f := iD) (o := fun l => .int ((havI rows lot l).length : Int)) (ds := [rD (shI rows lot)]) (by simp [evL, ev, rdF, slot, permL, hs]) (by have := shI_len (rows := rows) (lot := lot); simp [items, jSeq, rD, sz]; omega) (by simp [noMut, slot, isMut]) fun l hl => ?_
  · rw [e, cntI]
    simp [iD]
  · refine ⟨[.val (rD rows), .val (iD lot), .no, .val (iD l), .no], ?_, by simp [wipeE]⟩
    simp [turnC, asg, wipeE, slot, isBrw, evT, ev, evB, opd, isMut, rdF, rsL, rs, pr, pr1, qLen, evL, permL, hh]
def evenI (rows : List (List Int)) (lot : List Int) : Bool := (cntI rows lot).all fun c => decide (c = (cntI rows lot).getD 0 0)
theorem atD_zero {l : List Int} {c : Int} (h : c ∈ l) : atD (l.map .int) 0 = some (.int (l.getD 0 0)) := by
  have hl : 0 < l.length := List.length_pos_of_mem h
  have := atD_int (row := l) (t := 0) ⟨by omega, by omega⟩
  exact this
theorem is_even_of {rows : List (List Int)} {lot : List Int} (h : ∀ r ∈ rows, LotOk r.length lot) (hz : lot.length ≤ 1000) (hr : rows.length ≤ 500) : CT T W (n + 3) 8 [rD rows, iD lot] = some (.bool (evenI rows lot), []) := by
  obtain ⟨s, h1, _, h3⟩ := shown_of (W := W) (n := n) h hz hr
  rw [← shI_eq h3] at h1
  have hh : ∀ l, CT T W (n + 2) 7 [rD rows, iD lot, iD l] = some (.list (havI rows lot l), []) := fun l => having_of 5 (f := 7) rfl rfl (fun r hr => letters_of (f := 5) rfl rfl (h r hr) (by omega)) hr
  have c := counts_of (k := 0) (rest := []) hr h1 hh
  rw [ct_plain (T := T) (i := 8) (b := bis_even_at) rfl rfl]
  refine run_rt (b := false) (e := [.val (rD rows), .val (iD lot), .val (iD (cntI rows lot)), .no, .no]) ?_
  refine (exB_nx (e := [.val (rD rows), .val (iD lot), .val (iD (cntI rows lot)), .no, .no]) (l := []) (asg_eq (i := 2) c rfl (by simp))).trans ?_
  refine exB_rt (ret_eq ?_)
  have e := ev_compM (C := CT T W (n + 2)) (own := [4]) (tg := .nm 4) (ik := .seq) (its := [(.var 2)]) (ifs := []) (elt := .prm .eq [(.var 4), (.prm .ix [(.var 2), (.con (.int (0)))])]) (env := [.val (rD rows), .val (iD lot), .val (iD (cntI rows lot)), .no, .no]) (env1 := [.val (rD rows), .val (iD lot), .val (iD (cntI rows lot)), .no, .no])
    (l := cntI rows lot) (f := .int) (o := fun c => .bool (decide (c = (cntI rows lot).getD 0 0))) (ds := [iD (cntI rows lot)]) (by simp [evL, ev, rdF, slot]) (by have := shI_len (rows := rows) (lot := lot); simp [items, jSeq, iD, sz, cntI]; omega) (by simp [noMut, slot, isMut]) fun c hc => ?_
  · rw [ev]
    simp only [evB, opd, e, Option.map_some, Option.bind_some, rsL, rs, pr, pr1]
    show Option.map _ (qAll (.list ((cntI rows lot).map fun c => .bool (decide (c = (cntI rows lot).getD 0 0))))) = _
    have : ∀ (l : List Int) (z : Int), boolsOf (l.map fun c => PyData.bool (decide (c = z))) = some (l.map fun c => decide (c = z)) := by
      intro l z
      induction l with
      | nil => rfl
      | cons c l ih => rw [List.map_cons, boolsOf, ih]; rfl
    have qa : qAll (.list ((cntI rows lot).map fun c => .bool (decide (c = (cntI rows lot).getD 0 0)))) = some (.bool (evenI rows lot)) := by
      show Option.map _ (boolsOf ((cntI rows lot).map fun c => .bool (decide (c = (cntI rows lot).getD 0 0)))) = _
      rw [this (cntI rows lot) ((cntI rows lot).getD 0 0)]
      simp only [Option.map_some, List.all_map, evenI]
      rfl
    rw [qa]
    rfl
  · refine ⟨[.val (rD rows), .val (iD lot), .val (iD (cntI rows lot)), .no, .val (.int c)], ?_, by simp [wipeE]⟩
    have q := atD_zero hc
    have q2 : ∀ a b : Int, qEq (.int a) (.int b) = some (.bool (decide (a = b))) := fun a b => by
      unfold qEq
      rw [if_pos (by simp [eqOk, SeqAt.shaped, PyData.canLay0, PyData.depth])]
      simp only [PyData.eqv]
      rfl
    simp [turnC, asg, wipeE, slot, isBrw, evT, ev, evB, opd, isMut, rdF, rsL, rs, pr, pr2, qIx, iD, q, q2]
end
end K56

namespace K56
open PySem PD
section
variable {W n : Nat}
/-! ### the lots -/
def lotStep (found : List (List Int)) (t : Nat) : List (List Int) := found ++ found.map fun l => l ++ [(t : Int)]
def lots0 (m : Nat) : List (List Int) := (List.range m).foldl lotStep [[]]
theorem lots0_succ (m : Nat) : lots0 (m + 1) = lotStep (lots0 m) m := by
  unfold lots0
  rw [List.range_succ, List.foldl_append]
  rfl
theorem lots0_ok : ∀ m : Nat, (lots0 m).length = 2 ^ m ∧ ∀ l ∈ lots0 m, l.length ≤ m ∧ LotOk m l
  | 0 => ⟨rfl, fun l hl => by
    have : l = [] := by simpa [lots0] using hl
    subst this
    exact ⟨Nat.le_refl _, fun t ht => by cases ht⟩⟩
  | m + 1 => by
    obtain ⟨h1, h2⟩ := lots0_ok m
    rw [lots0_succ]
    refine ⟨by unfold lotStep; rw [List.length_append, List.length_map, h1, Nat.pow_succ]; omega, fun l hl => ?_⟩
    unfold lotStep at hl
    rcases List.mem_append.mp hl with hl | hl
    · obtain ⟨a, b⟩ := h2 l hl
      exact ⟨by omega, fun t ht => by have := b t ht; omega⟩
    · obtain ⟨k, hk, rfl⟩ := List.mem_map.mp hl
      obtain ⟨a, b⟩ := h2 k hk
      refine ⟨by simp; omega, fun t ht => ?_⟩
      rcases List.mem_append.mp ht with ht | ht
      · have := b t ht; omega
      · have : t = (m : Int) := by simpa using ht
        omega
def pD (l : List Int) : D := .tuple [.int (l.length : Nat), iD l]
theorem sorted_lots (l : List (List Int)) (hz : l.length ≤ 1000) : ∃ s : List (List Int), qSorted (.list (l.map pD)) = some (.list (s.map pD)) ∧ s.Perm l ∧ sortD (l.map pD) = s.map pD := by
  have hp : (sortD (l.map pD)).Perm (l.map pD) := List.mergeSort_perm _ _
  have : ∃ s : List (List Int), sortD (l.map pD) = s.map pD ∧ s.Perm l := by
    have gen : ∀ (m : List D), m.Perm (l.map pD) → ∃ s : List (List Int), m = s.map pD ∧ s.Perm l := fun m hm => by
      have hmem : ∀ d ∈ m, ∃ a, d = pD a := fun d hd => by
        obtain ⟨a, _, e⟩ := List.mem_map.mp (hm.mem_iff.mp hd)
        exact ⟨a, e.symm⟩
      have : ∃ s : List (List Int), m = s.map pD := by
        clear hm
        induction m with
        | nil => exact ⟨[], rfl⟩
        | cons d m ih =>
          obtain ⟨a, rfl⟩ := hmem d List.mem_cons_self
          obtain ⟨s, rfl⟩ := ih fun d hd => hmem d (List.mem_cons_of_mem _ hd)
          exact ⟨a :: s, rfl⟩
      obtain ⟨s, rfl⟩ := this
      let g : D → List Int := fun d => match d with
        | .tuple [_, x] => unI x
        | _ => []
      have q := hm.map g
      rw [List.map_map, List.map_map] at q
      have e : (g ∘ pD) = id := funext fun a => unI_i a
      rw [e, List.map_id, List.map_id] at q
      exact ⟨s, rfl, q⟩
    exact gen _ hp
  obtain ⟨s, h1, h2⟩ := this
  refine ⟨s, ?_, h2, h1⟩
  have a1 : allAlike (l.map pD) = true := by
    unfold allAlike
    rw [List.all_eq_true]
    intro x hx
    rw [List.all_eq_true]
    intro y hy
    obtain ⟨a, _, rfl⟩ := List.mem_map.mp hx
    obtain ⟨b, _, rfl⟩ := List.mem_map.mp hy
    simp [pD, iD, PySem.W.alike, PySem.W.alikeAll, alike_ints]
  have a2 : sortableD (l.map pD) = true := by
    unfold sortableD
    rw [Bool.or_eq_true]
    refine .inl ?_
    rw [List.all_eq_true]
    intro x hx
    obtain ⟨a, _, rfl⟩ := List.mem_map.mp hx
    rfl
  have a3 : ∀ l : List (List Int), PyData.depthAll (l.map pD) ≤ 2 := by
    intro l
    induction l with
    | nil => simp [PyData.depthAll]
    | cons x l ih =>
      rw [List.map_cons, PyData.depthAll]
      have : PyData.depth (pD x) = 2 := by simp [pD, iD, PyData.depth, PyData.depthAll, lay_ints]
      omega
  unfold qSorted
  simp only [a1, a2, Bool.and_self, Bool.true_and, List.length_map]
  rw [if_pos, h1]
  have := a3 l
  simp [sz]; omega
/-- the lots as both defs tell them -/
def lotsI (m : Nat) : List (List Int) := (sortD ((lots0 m).map pD)).map fun d => match d with
  | .tuple [_, x] => unI x
  | _ => []
theorem lots_of {f : Nat} {b : List Sm} (hT : T[f]? = some ⟨1, 5, false, false, b⟩) (hb : b = blots_of) {m : Nat} (hm : m ≤ 5) : CT T W (n + 1) f [.int (m : Nat)] = some (rD (lotsI m), []) := by
  subst hb
  obtain ⟨z1, z2⟩ := lots0_ok m
  have hpow : ∀ c, c ≤ 5 → 2 ^ c ≤ 32 := fun c hc => Nat.pow_le_pow_right (by decide) hc
  obtain ⟨s, h1, h2, h3⟩ := sorted_lots (lots0 m) (by have := hpow m hm; omega)
  have hs : lotsI m = s := by
    unfold lotsI
    rw [h3, List.map_map]
    exact (List.map_congr_left fun a _ => unI_i a).trans (List.map_id s)
  rw [hs, ct_plain hT rfl]
  let M : D := .int (m : Nat)
  let st : Nat → List (List Int) → En → Fl → Prop := fun c found e fl => (∃ s2, e = [.val M, .val (rD found), s2, .no, .no] ∧ isMut s2 = false) ∧ fl = [] ∧ found.length = 2 ^ c ∧ ∀ l ∈ found, l.length ≤ c
  let Fn : D → En → Fl → Option Fw := fun x e l => (asg (.nm 2) x e).bind fun e1 => exB (CT T W n) (ZT T W n) W false [.asg .plain (.nm 1) (.prm .add [(.var 1), (.comp [4] (.nm 4) .seq [(.var 1)] [] (.prm .add [(.var 4), (.lst [(.var 2)])]))])] e1 (updF false (false && decide (IK.rng1 = IK.seq)) (.nm 2) x l)
  have step : ∀ c b e fl a, c < 5 → a ∈ List.range m → st c b e fl → ∃ e' fl', Fn ((fun i : Nat => PyData.int (i : Nat)) a) e fl = some (.nx e' fl') ∧ st (c + 1) (lotStep b a) e' fl' := fun c b e fl a hc ha hs => by
    obtain ⟨⟨s2, rfl, m2⟩, rfl, hl, hk⟩ := hs
    have hb : isBrw s2 = false := by cases s2 <;> first | rfl | cases m2
    have h32 := hpow c (by omega)
    let E : En := [.val M, .val (rD b), .val (.int (a : Nat)), .no, .no]
    have qc := ev_compM (C := CT T W n) (own := [4]) (tg := .nm 4) (ik := .seq) (its := [(.var 1)]) (ifs := []) (elt := .prm .add [(.var 4), (.lst [(.var 2)])]) (env := E) (env1 := E) (l := b) (f := iD) (o := fun l => iD (l ++ [(a : Int)])) (ds := [rD b])
      (by simp [E, evL, ev, rdF, slot]) (by simp [items, jSeq, rD, sz]; omega) (by simp [E, noMut, slot, isMut]) fun l hl' => by
        refine ⟨[.val M, .val (rD b), .val (.int (a : Nat)), .no, .val (iD l)], ?_, by simp [E, wipeE]⟩
        have := hk l hl'
        simp [E, turnC, asg, wipeE, slot, isBrw, evT, ev, evB, opd, isMut, rdF, rsL, rs, pr, pr2, qAdd, evL, iD, sz]
        omega
    have hmap : b.map (fun l => iD (l ++ [(a : Int)])) = (b.map fun l => l ++ [(a : Int)]).map iD := by rw [List.map_map]; rfl
    have q : ev (CT T W n) (.prm .add [(.var 1), (.comp [4] (.nm 4) .seq [(.var 1)] [] (.prm .add [(.var 4), (.lst [(.var 2)])]))]) E = some (rD (lotStep b a), E) := by
      have := add_rows b (b.map fun l => l ++ [(a : Int)]) (by rw [List.length_map]; omega)
      rw [hmap] at qc
      exact prm2_eq (opd_val (d := rD b) rfl) (opd_ex (fun _ z => by cases z) qc) rfl rfl this
    refine ⟨[.val M, .val (rD (lotStep b a)), .val (.int (a : Nat)), .no, .no], [], ?_, ⟨⟨_, rfl, rfl⟩, rfl, by unfold lotStep; rw [List.length_append, List.length_map, hl, Nat.pow_succ]; omega, fun l hl' => ?_⟩⟩
    · have q2 := asg_eq (C := CT T W n) (Z := ZT T W n) (W := W) (fl := []) (i := 1) q rfl (by simp [E])
      show Option.bind (asg (.nm 2) (.int (a : Nat)) [.val M, .val (rD b), s2, .no, .no]) _ = _
      rw [show asg (.nm 2) (.int (a : Nat)) [.val M, .val (rD b), s2, .no, .no] = some E by simp [asg, slot, hb, E]]
      exact exB_nx (r := []) q2
    · unfold lotStep at hl'
      rcases List.mem_append.mp hl' with h | h
      · have := hk l h; omega
      · obtain ⟨k, hk2, rfl⟩ := List.mem_map.mp h
        have := hk k hk2
        simp; omega
  obtain ⟨e', fl', g1, ⟨⟨s2, g2, g4⟩, g3, _⟩⟩ := forL_foldN (M := 5) (f := fun i : Nat => PyData.int (i : Nat)) (l := List.range m) (c := 0) (b := [[]]) (e := [.val M, .val (rD [[]]), .no, .no, .no]) (fl := []) step ⟨⟨.no, rfl, rfl⟩, rfl, rfl, fun l hl => by simp at hl; subst hl; simp⟩ (by simp; omega)
  subst g2 g3
  have q0 : ev (CT T W n) (.lst [(.lst [])]) [.val M, .no, .no, .no, .no] = some (rD [[]], [.val M, .no, .no, .no, .no]) := rfl
  let E : En := [.val M, .val (rD (lots0 m)), s2, .no, .no]
  refine run_rt (b := false) (e := E) ?_
  refine (exB_nx (e := [.val M, .val (rD [[]]), .no, .no, .no]) (l := []) (asg_eq (fl := []) (i := 1) q0 rfl (by simp))).trans ?_
  refine (exB_nx (for_eq (ds := [M]) (xs := (List.range m).map fun i : Nat => PyData.int (i : Nat)) (b := false) (env1 := [.val M, .val (rD [[]]), .no, .no, .no]) (by simp [evI, evL, ev, rdF, slot]) (by simp [items, jRng1, M, rangeD]; omega) g1)).trans ?_
  refine exB_rt (ret_eq ?_)
  have q1 := ev_compM (C := CT T W n) (own := [4]) (tg := .nm 4) (ik := .seq) (its := [(.var 1)]) (ifs := []) (elt := .tup [(.prm .len [(.var 4)]), (.var 4)]) (env := E) (env1 := E) (l := lots0 m) (f := iD) (o := pD) (ds := [rD (lots0 m)])
    (by simp [E, evL, ev, rdF, slot]) (by have := hpow m hm; simp [items, jSeq, rD, sz]; omega) (by simp [E, noMut, slot, isMut]) fun l hl' => by
      refine ⟨[.val M, .val (rD (lots0 m)), s2, .no, .val (iD l)], ?_, by simp [E, wipeE]⟩
      simp [E, turnC, asg, wipeE, slot, isBrw, evT, ev, evB, opd, isMut, rdF, rsL, rs, pr, pr1, qLen, evL, iD, pD]
  refine ev_compM (l := s) (f := pD) (o := iD) (ds := [.list (s.map pD)]) ?_ ?_ ?_ fun l hl' => ?_
  · have e := prm1_eq (p := .sorted) (opd_ex (fun _ z => by cases z) q1) rfl h1
    exact evL1 e
  · have := hpow m hm
    have e := h2.length_eq
    simp [items, jSeq, sz]; omega
  · simp [E, noMut, slot, isMut]
  · refine ⟨[.val M, .val (rD (lots0 m)), s2, .val (.int (l.length : Nat)), .val (iD l)], ?_, by simp [E, wipeE]⟩
    simp [E, turnC, asg, asgs, wipeE, slot, isBrw, evT, ev, rdF, pD]
theorem lotsI_ok {m : Nat} (hm : m ≤ 5) : (lotsI m).length ≤ 32 ∧ ∀ l ∈ lotsI m, l.length ≤ 5 ∧ LotOk m l := by
  obtain ⟨z1, z2⟩ := lots0_ok m
  have hpow : 2 ^ m ≤ 32 := Nat.pow_le_pow_right (by decide) hm
  obtain ⟨s, h1, h2, h3⟩ := sorted_lots (lots0 m) (by omega)
  have hs : lotsI m = s := by
    unfold lotsI
    rw [h3, List.map_map]
    exact (List.map_congr_left fun a _ => unI_i a).trans (List.map_id s)
  rw [hs]
  refine ⟨by have := h2.length_eq; omega, fun l hl => ?_⟩
  obtain ⟨a, b⟩ := z2 l (h2.mem_iff.mp hl)
  exact ⟨by omega, b⟩
end
end K56

namespace K56
open PySem PD
section
variable {W n : Nat}
/-! ### the same is the same -/
def plainT : Nat → D → Bool
  | 0, _ => false
  | k + 1, d => match d with
    | .int _ => true
    | .str x => SeqAt.shaped (.str x)
    | .list ds => decide (ds.length ≤ 1000) && ds.all (plainT k)
    | .tuple ds => decide (ds.length ≤ 1000) && ds.all (plainT k)
    | _ => false
theorem eq_ii (a b : Int) : qEq (.int a) (.int b) = some (.bool (decide (a = b))) := by
  unfold qEq
  rw [if_pos (by simp [eqOk, SeqAt.shaped, PyData.canLay0, PyData.depth])]
  simp only [PyData.eqv]
  rfl
theorem ne_bb (a b : Bool) : qNe (.bool a) (.bool b) = some (.bool (!decide (a = b))) := by
  unfold qNe
  rw [if_pos (by simp [eqOk, SeqAt.shaped, PyData.canLay0, PyData.depth])]
  simp only [PyData.eqv]
  rfl
theorem rng_nat {m : Nat} (h : m ≤ 1000) : jRng1 [.int (m : Nat)] = some ((List.range m).map fun i : Nat => PyData.int (i : Nat)) := by
  simp [jRng1, rangeD]; omega
theorem atD_nat {ds : List D} {i : Nat} (h : i < ds.length) : atD ds (i : Nat) = some ds[i] := by
  unfold atD
  rw [ixAt_in ⟨by omega, by omega⟩]
  simp [h]
theorem same_seq {k : Nat} {d : D} {ds : List D} (hd : d = .list ds ∨ d = .tuple ds) (hl : ds.length ≤ 1000) (ih : ∀ x ∈ ds, CT T W n 14 [x, x] = some (.bool true, [])) : CT T W (n + 1) 14 [d, d] = some (.bool true, []) := by
  rw [ct_plain (T := T) (i := 14) (b := b_law_same) rfl rfl]
  let E : En := [.val d, .val d, .no]
  have hlen : qLen d = some (.int (ds.length : Nat)) := by rcases hd with rfl | rfl <;> rfl
  have hix : ∀ i : Nat, i < ds.length → ∃ x ∈ ds, qIx d (.int (i : Nat)) = some x := fun i hi => ⟨ds[i], List.getElem_mem hi, by rcases hd with rfl | rfl <;> exact atD_nat hi⟩
  have qc := ev_comp (C := CT T W n) (own := [2]) (tg := .nm 2) (ik := .rng1) (its := [(.prm .len [(.var 1)])]) (ifs := [(.not (.call 14 [] [(.prm .ix [(.var 0), (.var 2)]), (.prm .ix [(.var 1), (.var 2)])]))]) (elt := .var 2) (env := E) (env1 := E)
    (l := List.range ds.length) (f := fun i : Nat => PyData.int (i : Nat)) (o := fun _ => none) (ds := [.int (ds.length : Nat)]) (evL1 (prm1_eq (opd_val (d := d) rfl) rfl hlen)) (rng_nat hl) rfl fun i hi => by
      refine ⟨[.val d, .val d, .val (.int (i : Nat))], ?_, rfl⟩
      obtain ⟨x, hx, hq⟩ := hix i (by simpa using hi)
      have q1 : ev (CT T W n) (.call 14 [] [(.prm .ix [(.var 0), (.var 2)]), (.prm .ix [(.var 1), (.var 2)])]) [.val d, .val d, .val (.int (i : Nat))] = some (.bool true, [.val d, .val d, .val (.int (i : Nat))]) := by
        have a1 := prm2_eq (C := CT T W n) (p := .ix) (a := .var 0) (b := .var 2) (env := [.val d, .val d, .val (.int (i : Nat))]) (opd_val (d := d) rfl) (opd_val (d := .int (i : Nat)) rfl) rfl rfl hq
        have a2 := prm2_eq (C := CT T W n) (p := .ix) (a := .var 1) (b := .var 2) (env := [.val d, .val d, .val (.int (i : Nat))]) (opd_val (d := d) rfl) (opd_val (d := .int (i : Nat)) rfl) rfl rfl hq
        rw [ev, evL, a1]
        simp only [Option.bind_some, evL1 a2, Option.map_some, permL, ih x hx]
      have q2 : ev (CT T W n) (.not (.call 14 [] [(.prm .ix [(.var 0), (.var 2)]), (.prm .ix [(.var 1), (.var 2)])])) [.val d, .val d, .val (.int (i : Nat))] = some (.bool false, [.val d, .val d, .val (.int (i : Nat))]) := by rw [ev, q1]; rfl
      unfold turnC
      rw [show asg (.nm 2) (PyData.int (i : Nat)) (wipeE E [2]) = some [.val d, .val d, .val (.int (i : Nat))] from rfl]
      simp only [Option.bind_some, evT, q2, isTrueD, Bool.false_eq_true, if_false]
  have hnone : ∀ l : List Nat, l.filterMap (fun _ => (none : Option D)) = [] := fun l => by induction l with
    | nil => rfl
    | cons a l ih => rw [List.filterMap_cons_none rfl, ih]
  rw [hnone] at qc
  have c1 : ev (CT T W n) (.or (.prm (.isi "tuple") [(.var 1)]) (.prm (.isi "list") [(.var 1)])) E = some (.bool true, E) := by rcases hd with rfl | rfl <;> rfl
  have c2 : ev (CT T W n) (.or (.prm .ne [(.prm (.isi "tuple") [(.var 0)]), (.prm (.isi "tuple") [(.var 1)])]) (.prm .ne [(.prm (.isi "list") [(.var 0)]), (.prm (.isi "list") [(.var 1)])])) E = some (.bool false, E) := by
    have t1 : ∀ (i : Nat), slot E i = .val d → ev (CT T W n) (.prm (.isi "tuple") [(.var i)]) E = some (.bool d.isTuple, E) := fun i hi => prm1_eq (opd_val hi) rfl (by rcases hd with rfl | rfl <;> rfl)
    have t2 : ∀ (i : Nat), slot E i = .val d → ev (CT T W n) (.prm (.isi "list") [(.var i)]) E = some (.bool d.isList, E) := fun i hi => prm1_eq (opd_val hi) rfl (by rcases hd with rfl | rfl <;> rfl)
    have u1 := prm2_eq (p := .ne) (opd_ex (fun _ z => by cases z) (t1 0 rfl)) (opd_ex (fun _ z => by cases z) (t1 1 rfl)) rfl rfl (ne_bb _ _)
    have u2 := prm2_eq (p := .ne) (opd_ex (fun _ z => by cases z) (t2 0 rfl)) (opd_ex (fun _ z => by cases z) (t2 1 rfl)) rfl rfl (ne_bb _ _)
    rw [ev, u1]
    simp only [decide_true, Bool.not_true, Option.bind_some, isTrueD, Bool.false_eq_true, if_false]
    rw [u2]
    simp
  have c3 : ev (CT T W n) (.and (.prm .eq [(.prm .len [(.var 0)]), (.prm .len [(.var 1)])]) (.prm .eq [(.comp [2] (.nm 2) .rng1 [(.prm .len [(.var 1)])] [(.not (.call 14 [] [(.prm .ix [(.var 0), (.var 2)]), (.prm .ix [(.var 1), (.var 2)])]))] (.var 2)), (.lst [])])) E = some (.bool true, E) := by
    have l0 : ∀ i, slot E i = .val d → ev (CT T W n) (.prm .len [(.var i)]) E = some (.int (ds.length : Nat), E) := fun i hi => prm1_eq (opd_val hi) rfl hlen
    have u1 := prm2_eq (p := .eq) (opd_ex (fun _ z => by cases z) (l0 0 rfl)) (opd_ex (fun _ z => by cases z) (l0 1 rfl)) rfl rfl (eq_ii _ _)
    have u2 := prm2_eq (p := .eq) (b := .lst []) (opd_ex (fun _ z => by cases z) qc) (opd_ex (e1 := E) (d := .list []) (fun _ z => by cases z) rfl) rfl rfl (eq_i [] [])
    rw [ev, u1]
    simp only [decide_true, Option.bind_some, isTrueD, if_true]
    rw [u2]
    simp
  refine run_rt (b := false) (e := E) ?_
  refine exB_rt ((ite_eq c1).trans ?_)
  rw [if_pos rfl]
  refine (exB_nx (e := E) (l := []) ((ite_eq c2).trans rfl)).trans ?_
  exact exB_rt (ret_eq c3)
theorem same_ok : ∀ (k : Nat) (d : D), plainT k d = true → ∀ n, k ≤ n → CT T W n 14 [d, d] = some (.bool true, [])
  | 0, _, h, _, _ => by cases h
  | k + 1, d, h, 0, hn => by omega
  | k + 1, d, h, n + 1, hn => by
    have seq : ∀ ds : List D, (d = .list ds ∨ d = .tuple ds) → (decide (ds.length ≤ 1000) && ds.all (plainT k)) = true → CT T W (n + 1) 14 [d, d] = some (.bool true, []) := fun ds hd h => by
      rw [Bool.and_eq_true, decide_eq_true_eq, List.all_eq_true] at h
      exact same_seq (k := k) hd h.1 fun x hx => same_ok k x (h.2 x hx) n (by omega)
    cases d with
    | list ds => exact seq ds (.inl rfl) h
    | tuple ds => exact seq ds (.inr rfl) h
    | int i =>
      rw [ct_plain (T := T) (i := 14) (b := b_law_same) rfl rfl]
      let E : En := [.val (.int i), .val (.int i), .no]
      have u := prm2_eq (C := CT T W n) (p := .eq) (a := .var 0) (b := .var 1) (env := E) (opd_val (d := .int i) rfl) (opd_val (d := .int i) rfl) rfl rfl (eq_ii i i)
      refine run_rt (b := false) (e := E) ?_
      refine (exB_nx (e := E) (l := []) rfl).trans ((exB_nx (e := E) (l := []) rfl).trans (exB_rt ?_))
      refine (ite_eq (b := true) (env1 := E) rfl).trans ?_
      rw [if_pos rfl]
      refine exB_rt (ret_eq ?_)
      rw [ev]
      show Option.bind (some (PyData.bool true, E)) _ = _
      simp only [Option.bind_some, isTrueD, if_true]
      rw [u]; simp
    | str x =>
      have h : SeqAt.shaped (.str x) = true := h
      have hq : qEq (.str x) (.str x) = some (.bool true) := by
        unfold qEq
        rw [if_pos (by simp [eqOk, h])]
        simp [PyData.eqv]
      rw [ct_plain (T := T) (i := 14) (b := b_law_same) rfl rfl]
      let E : En := [.val (.str x), .val (.str x), .no]
      have u := prm2_eq (C := CT T W n) (p := .eq) (a := .var 0) (b := .var 1) (env := E) (opd_val (d := .str x) rfl) (opd_val (d := .str x) rfl) rfl rfl hq
      refine run_rt (b := false) (e := E) ?_
      refine (exB_nx (e := E) (l := []) rfl).trans ((exB_nx (e := E) (l := []) rfl).trans ((exB_nx (e := E) (l := []) rfl).trans (exB_rt ?_)))
      refine (ite_eq (b := true) (env1 := E) rfl).trans ?_
      rw [if_pos rfl]
      refine exB_rt (ret_eq ?_)
      rw [ev]
      show Option.bind (some (PyData.bool true, E)) _ = _
      simp only [Option.bind_some, isTrueD, if_true]
      rw [u]
    | _ => cases h
end
end K56

namespace K56
open PySem PD
section
variable {W n : Nat}
theorem le_ii (a b : Int) : qLe (.int a) (.int b) = some (.bool (decide (a ≤ b))) := by
  unfold qLe
  rw [if_pos (by simp [ordOk', ordOk, PySem.W.alike, PyData.depth]), PySem.W.dataLt_int]
  by_cases h : a ≤ b <;> simp [h] <;> omega
theorem ne_ii (a b : Int) : qNe (.int a) (.int b) = some (.bool (!decide (a = b))) := by
  unfold qNe
  rw [if_pos (by simp [eqOk, SeqAt.shaped, PyData.canLay0, PyData.depth])]
  simp only [PyData.eqv]
  rfl
structure Ok (rows : List (List Int)) (m : Nat) : Prop where
  one : 1 ≤ rows.length
  few : rows.length ≤ 12
  m1 : 1 ≤ m
  m5 : m ≤ 5
  len : ∀ r ∈ rows, r.length = m
  dig : ∀ r ∈ rows, ∀ x ∈ r, 0 ≤ x ∧ x ≤ 9
theorem whole_of (i : Int) : CT T W (n + 1) 0 [.int i] = some (.bool true, []) := by
  rw [ct_plain (T := T) (i := 0) (b := bis_whole) rfl rfl]
  exact run_rt (b := false) (e := [.val (.int i)]) rfl
theorem all_true {l : List D} (h : ∀ d ∈ l, d = .bool true) : qAll (.list l) = some (.bool true) := by
  have : boolsOf l = some (l.map fun _ => true) := by
    induction l with
    | nil => rfl
    | cons d l ih =>
      rw [h d List.mem_cons_self, boolsOf, ih fun x hx => h x (List.mem_cons_of_mem _ hx)]; rfl
  show Option.map _ (boolsOf l) = _
  rw [this]
  simp
theorem letters_ok {row : List Int} {m : Nat} (hl : row.length = m) (hm : m ≤ 5) (hd : ∀ x ∈ row, 0 ≤ x ∧ x ≤ 9) : CT T W (n + 2) 2 [iD row, .int (m : Nat)] = some (.bool true, []) := by
  rw [ct_plain (T := T) (i := 2) (b := bare_letters) rfl rfl]
  let E : En := [.val (iD row), .val (.int (m : Nat)), .no]
  have l0 : ev (CT T W (n + 1)) (.prm .len [(.var 0)]) E = some (.int (row.length : Nat), E) := prm1_eq (opd_val (d := iD row) rfl) rfl (by simp [pr1, qLen, iD])
  have u := prm2_eq (p := .ne) (b := .var 1) (opd_ex (fun _ z => by cases z) l0) (opd_val (d := .int (m : Nat)) rfl) rfl rfl (ne_ii _ _)
  have c1 : ev (CT T W (n + 1)) (.or (.not (.prm (.isi "list") [(.var 0)])) (.prm .ne [(.prm .len [(.var 0)]), (.var 1)])) E = some (.bool false, E) := by
    rw [ev]
    show Option.bind (some (PyData.bool false, E)) _ = _
    simp only [Option.bind_some, isTrueD, Bool.false_eq_true, if_false]
    rw [u, hl]; simp
  have qc := ev_compM (C := CT T W (n + 1)) (own := [2]) (tg := .nm 2) (ik := .seq) (its := [(.var 0)]) (ifs := []) (elt := .and (.call 0 [] [(.var 2)]) (.chain .le .le (.con (.int (0))) (.var 2) (.con (.int (9))))) (env := E) (env1 := E) (l := row) (f := .int) (o := fun _ => .bool true) (ds := [iD row])
    rfl (by simp [items, jSeq, iD, sz]; omega) rfl fun x hx => by
      refine ⟨[.val (iD row), .val (.int (m : Nat)), .val (.int x)], ?_, rfl⟩
      obtain ⟨h1, h2⟩ := hd x hx
      unfold turnC
      rw [show asg (.nm 2) (PyData.int x) (wipeE E [2]) = some [.val (iD row), .val (.int (m : Nat)), .val (.int x)] from rfl]
      simp only [Option.bind_some, evT, if_true, ev, evL, rdF, slot, List.getD_cons_succ, List.getD_cons_zero, permL, Option.map_some, whole_of, isTrueD, opd, isMut, Bool.false_eq_true, if_false, rsL, rs, pr, pr2, le_ii, h1, h2, decide_true]
  refine run_rt (b := false) (e := E) ?_
  refine (exB_nx (e := E) (l := []) ((ite_eq c1).trans rfl)).trans ?_
  refine exB_rt (ret_eq (prm1_eq (opd_ex (fun _ z => by cases z) qc) rfl (all_true fun d hd => ?_)))
  obtain ⟨x, _, rfl⟩ := List.mem_map.mp hd
  rfl
theorem rows_ok {rows : List (List Int)} {m : Nat} (o : Ok rows m) : CT T W (n + 3) 3 [rD rows] = some (.bool true, []) := by
  rw [ct_plain (T := T) (i := 3) (b := bare_rows_by) rfl rfl]
  let E : En := [.val (rD rows), .no]
  obtain ⟨r0, rr, he⟩ : ∃ r0 rr, rows = r0 :: rr := by
    cases h : rows with
    | nil => have := o.one; rw [h] at this; simp at this
    | cons a b => exact ⟨a, b, rfl⟩
  have h0 : r0.length = m := o.len r0 (by rw [he]; exact List.mem_cons_self)
  have ix0 : ev (CT T W (n + 2)) (.prm .ix [(.var 0), (.con (.int (0)))]) E = some (iD r0, E) := prm2_eq (opd_val (d := rD rows) rfl) (opd_ex (e1 := E) (d := .int 0) (fun _ z => by cases z) rfl) rfl rfl (by
    show atD (rows.map iD) 0 = _
    rw [he]
    have := atD_nat (ds := (r0 :: rr).map iD) (i := 0) (by simp)
    exact this)
  have len0 : ev (CT T W (n + 2)) (.prm .len [(.prm .ix [(.var 0), (.con (.int (0)))])]) E = some (.int (m : Nat), E) := prm1_eq (opd_ex (fun _ z => by cases z) ix0) rfl (by simp [pr1, qLen, iD, h0])
  have lenR : ev (CT T W (n + 2)) (.prm .len [(.var 0)]) E = some (.int (rows.length : Nat), E) := prm1_eq (opd_val (d := rD rows) rfl) rfl (by simp [pr1, qLen, rD])
  have chn : ∀ (e : Ex) (k : Nat) (hi : Int), (∀ i, e ≠ .var i) → ev (CT T W (n + 2)) e E = some (.int (k : Nat), E) → 1 ≤ k → (k : Int) ≤ hi → ev (CT T W (n + 2)) (.not (.chain .le .le (.con (.int (1))) e (.con (.int hi)))) E = some (.bool false, E) := fun e k hi hv he h1 h2 => by
    have o1 := opd_ex hv he
    rw [ev, ev]
    simp only [opd_ex (a := .con (.int 1)) (env := E) (e1 := E) (d := .int 1) (C := CT T W (n + 2)) (fun _ z => by cases z) rfl, Option.bind_some, o1, rsL, rs, Option.map_some, pr, pr2, le_ii, show (1 : Int) ≤ (k : Nat) by omega, decide_true, isTrueD, if_true, opd_ex (a := .con (.int hi)) (env := E) (e1 := E) (d := .int hi) (C := CT T W (n + 2)) (fun _ z => by cases z) rfl, h2, Bool.not_true]
  have isl : ev (CT T W (n + 2)) (.not (.prm (.isi "list") [(.prm .ix [(.var 0), (.con (.int (0)))])])) E = some (.bool false, E) := by
    rw [ev, prm1_eq (p := .isi "list") (opd_ex (fun _ z => by cases z) ix0) rfl (d := .bool true) rfl]
    rfl
  have c1 : ev (CT T W (n + 2)) (.or (.not (.prm (.isi "list") [(.var 0)])) (.or (.not (.chain .le .le (.con (.int (1))) (.prm .len [(.var 0)]) (.con (.int (12))))) (.not (.prm (.isi "list") [(.prm .ix [(.var 0), (.con (.int (0)))])])))) E = some (.bool false, E) := by
    have := o.few
    rw [ev]
    show Option.bind (some (PyData.bool false, E)) _ = _
    simp only [Option.bind_some, isTrueD, Bool.false_eq_true, if_false]
    rw [ev, chn _ rows.length 12 (fun _ z => by cases z) lenR o.one (by omega)]
    simp only [Option.bind_some, isTrueD, Bool.false_eq_true, if_false]
    rw [isl]
  have c2 := chn _ m 5 (fun _ z => by cases z) len0 o.m1 (by have := o.m5; omega)
  have qc := ev_compM (C := CT T W (n + 2)) (own := [1]) (tg := .nm 1) (ik := .seq) (its := [(.var 0)]) (ifs := []) (elt := .call 2 [] [(.var 1), (.prm .len [(.prm .ix [(.var 0), (.con (.int (0)))])])]) (env := E) (env1 := E) (l := rows) (f := iD) (o := fun _ => .bool true) (ds := [rD rows])
    rfl (by have := o.few; simp [items, jSeq, rD, sz]; omega) rfl fun x hx => by
      refine ⟨[.val (rD rows), .val (iD x)], ?_, rfl⟩
      have ix0 : ev (CT T W (n + 2)) (.prm .ix [(.var 0), (.con (.int (0)))]) [.val (rD rows), .val (iD x)] = some (iD r0, [.val (rD rows), .val (iD x)]) := prm2_eq (opd_val (d := rD rows) rfl) (opd_ex (e1 := [.val (rD rows), .val (iD x)]) (d := .int 0) (fun _ z => by cases z) rfl) rfl rfl (by
        show atD (rows.map iD) 0 = _
        rw [he]
        have := atD_nat (ds := (r0 :: rr).map iD) (i := 0) (by simp)
        exact this)
      have len0 : ev (CT T W (n + 2)) (.prm .len [(.prm .ix [(.var 0), (.con (.int (0)))])]) [.val (rD rows), .val (iD x)] = some (.int (m : Nat), [.val (rD rows), .val (iD x)]) := prm1_eq (opd_ex (fun _ z => by cases z) ix0) rfl (by simp [pr1, qLen, iD, h0])
      unfold turnC
      rw [show asg (.nm 1) (iD x) (wipeE E [1]) = some [.val (rD rows), .val (iD x)] from rfl]
      simp only [Option.bind_some, evT, if_true]
      rw [ev, evL, show ev (CT T W (n + 2)) (.var 1) [.val (rD rows), .val (iD x)] = some (iD x, [.val (rD rows), .val (iD x)]) from rfl]
      simp only [Option.bind_some, evL1 len0, Option.map_some, permL, letters_ok (W := W) (n := n) (o.len x hx) o.m5 (o.dig x hx)]
  refine run_rt (b := false) (e := E) ?_
  refine (exB_nx (e := E) (l := []) ((ite_eq c1).trans rfl)).trans ?_
  refine (exB_nx (e := E) (l := []) ((ite_eq c2).trans rfl)).trans ?_
  refine exB_rt (ret_eq (prm1_eq (opd_ex (fun _ z => by cases z) qc) rfl (all_true fun d hd => ?_)))
  obtain ⟨x, _, rfl⟩ := List.mem_map.mp hd
  rfl
theorem check_ok {rows : List (List Int)} {m : Nat} (o : Ok rows m) : CT T W (n + 4) 4 [rD rows] = some (.none, []) := by
  rw [ct_plain (T := T) (i := 4) (b := bcheck_rows) rfl rfl]
  have c : ev (CT T W (n + 3)) (.not (.call 3 [] [(.var 0)])) [.val (rD rows)] = some (.bool false, [.val (rD rows)]) := by
    rw [ev, ev, evL1 (d := rD rows) (e1 := [.val (rD rows)]) rfl]
    simp only [Option.bind_some, permL, rows_ok (W := W) (n := n) o, Option.map_some, isTrueD, Bool.not_true]
  exact run_nx (e := [.val (rD rows)]) (l := []) ((exB_nx (e := [.val (rD rows)]) (l := []) ((ite_eq c).trans rfl)).trans rfl)
end
end K56

namespace K56
open PySem PD
section
variable {W n : Nat}
/-- what both tell -/
def resD (rows : List (List Int)) (m : Nat) : D := match (lotsI m).find? fun lot => !evenI rows lot with
  | none => .tuple [.str "even"]
  | some lot => .tuple [.str "lot", iD lot]
theorem lots_fit {rows : List (List Int)} {m : Nat} (o : Ok rows m) {lot : List Int} (h : lot ∈ lotsI m) : (∀ r ∈ rows, LotOk r.length lot) ∧ lot.length ≤ 1000 := by
  obtain ⟨a, b⟩ := (lotsI_ok o.m5).2 lot h
  exact ⟨fun r hr => by rw [o.len r hr]; exact b, by omega⟩
theorem first_len {rows : List (List Int)} {m : Nat} (o : Ok rows m) {C : Nat → List D → Option (D × List D)} {E : En} (h : slot E 0 = .val (rD rows)) : ev C (.prm .len [(.prm .ix [(.var 0), (.con (.int (0)))])]) E = some (.int (m : Nat), E) := by
  obtain ⟨r0, rr, he⟩ : ∃ r0 rr, rows = r0 :: rr := by
    cases h : rows with
    | nil => have := o.one; rw [h] at this; simp at this
    | cons a b => exact ⟨a, b, rfl⟩
  have h0 : r0.length = m := o.len r0 (by rw [he]; exact List.mem_cons_self)
  have ix0 : ev C (.prm .ix [(.var 0), (.con (.int (0)))]) E = some (iD r0, E) := prm2_eq (opd_val (d := rD rows) h) (opd_ex (e1 := E) (d := .int 0) (fun _ z => by cases z) rfl) rfl rfl (by
    show atD (rows.map iD) 0 = _
    rw [he]
    have := atD_nat (ds := (r0 :: rr).map iD) (i := 0) (by simp)
    exact this)
  exact prm1_eq (opd_ex (fun _ z => by cases z) ix0) rfl (by simp [pr1, qLen, iD, h0])
theorem even_of {rows : List (List Int)} {m : Nat} (o : Ok rows m) : runT T W (n + 5) 9 [rD rows] = some (resD rows m, [], true) := by
  rw [run_tr (T := T) (i := 9) (b := beven_or_lot) rfl rfl]
  let Cn := CT T W (n + 4)
  let Zn := ZT T W (n + 4)
  have c0 : exS Cn Zn W true (.ex (.call 4 [] [(.var 0)])) [.val (rD rows), .no] [(false, 0, rD rows)] = some (.nx [.val (rD rows), .no] [(false, 0, rD rows)]) := by
    rw [exS, ev, evL1 (d := rD rows) (e1 := [.val (rD rows), .no]) rfl]
    simp only [Option.bind_some, permL, Cn, check_ok (W := W) (n := n) o, Option.map_some]
  have hI : evI Cn Zn true .call [(.call 1 [] [(.prm .len [(.prm .ix [(.var 0), (.con (.int (0)))])])])] [.val (rD rows), .no] [(false, 0, rD rows)] = some ([rD (lotsI m)], true, [.val (rD rows), .no]) := by
    show Option.map _ (Option.bind (evL Cn [(.prm .len [(.prm .ix [(.var 0), (.con (.int (0)))])])] [.val (rD rows), .no]) _) = _
    rw [evL1 (first_len o rfl)]
    simp only [Option.bind_some, Cn, lots_of (W := W) (n := n + 3) (f := 1) rfl rfl o.m5, Option.map_some]
    simp [lfs, lf]
  let st : En → Fl → Prop := fun e fl => (∃ s1, e = [.val (rD rows), s1] ∧ isMut s1 = false) ∧ rmF [1] fl = [(false, 0, rD rows)]
  let Fn : D → En → Fl → Option Fw := fun x e l => (asg (.nm 1) x e).bind fun e1 => exB Cn Zn W true [.ite (.not (.call 8 [] [(.var 0), (.var 1)])) [.ret .cut (.tup [(.con (.str "lot")), (.var 1)])] []] e1 (updF true (true && decide (IK.seq = IK.seq)) (.nm 1) x l)
  have key := forL_find (F := Fn) (f := iD) (st := st) (p := fun lot => evenI rows lot) (r := fun lot => .tuple [.str "lot", iD lot]) (bf := true) (l := lotsI m) (e := [.val (rD rows), .no]) (fl := [(false, 0, rD rows)]) (fun e fl lot hlot hs => by
    obtain ⟨⟨s1, rfl, m1⟩, hf⟩ := hs
    have hb : isBrw s1 = false := by cases s1 <;> first | rfl | cases m1
    obtain ⟨h1, h2⟩ := lots_fit o hlot
    have ha : asg (.nm 1) (iD lot) [.val (rD rows), s1] = some [.val (rD rows), .val (iD lot)] := by simp [asg, slot, hb]
    have hu : updF true (true && decide (IK.seq = IK.seq)) (.nm 1) (iD lot) fl = [(true, 1, iD lot), (false, 0, rD rows)] := by
      show (if true = true then tgF true (.nm 1) (iD lot) ++ rmF [1] fl else fl) = _
      rw [if_pos rfl, hf]; rfl
    have hc : ev Cn (.not (.call 8 [] [(.var 0), (.var 1)])) [.val (rD rows), .val (iD lot)] = some (.bool (!evenI rows lot), [.val (rD rows), .val (iD lot)]) := by
      rw [ev, ev, show evL Cn [(.var 0), (.var 1)] [.val (rD rows), .val (iD lot)] = some ([rD rows, iD lot], [.val (rD rows), .val (iD lot)]) from rfl]
      have := o.few
      simp only [Option.bind_some, permL, Cn, is_even_of (W := W) (n := n + 1) h1 h2 (by omega), Option.map_some, isTrueD]
    have hF : Fn (iD lot) [.val (rD rows), s1] fl = exB Cn Zn W true [.ite (.not (.call 8 [] [(.var 0), (.var 1)])) [.ret .cut (.tup [(.con (.str "lot")), (.var 1)])] []] [.val (rD rows), .val (iD lot)] [(true, 1, iD lot), (false, 0, rD rows)] := by
      show Option.bind (asg (.nm 1) (iD lot) [.val (rD rows), s1]) _ = _
      rw [ha, ← hu]; rfl
    refine ⟨fun hp => ⟨[.val (rD rows), .val (iD lot)], [(true, 1, iD lot), (false, 0, rD rows)], ?_, ⟨⟨_, rfl, rfl⟩, rfl⟩⟩, fun hp => ⟨[.val (rD rows), .val (iD lot)], ?_⟩⟩
    · have hp : evenI rows lot = true := hp
      rw [hF]
      exact (exB_nx (e := [.val (rD rows), .val (iD lot)]) (l := [(true, 1, iD lot), (false, 0, rD rows)]) ((ite_eq hc).trans (by rw [hp]; rfl))).trans rfl
    · have hp : evenI rows lot = false := hp
      rw [hF]
      refine exB_rt ((ite_eq hc).trans ?_)
      rw [hp]
      rfl) ⟨⟨.no, rfl, rfl⟩, rfl⟩
  have hx : items .seq [rD (lotsI m)] = some ((lotsI m).map iD) := by
    have := (lotsI_ok o.m5).1
    simp [items, jSeq, rD, sz]; omega
  unfold resD
  revert key
  cases hfind : (lotsI m).find? fun lot => !evenI rows lot with
  | none =>
    intro key
    obtain ⟨e', fl', g1, ⟨s1, rfl, m1⟩, g2⟩ := key
    have run : exB Cn Zn W true beven_or_lot [.val (rD rows), .no] [(false, 0, rD rows)] = some (.rt (.tuple [.str "even"]) true [.val (rD rows), s1]) := by
      refine (exB_nx c0).trans ((exB_nx (for_eq hI hx g1)).trans (exB_rt ?_))
      rfl
    show Option.bind (exB Cn Zn W true beven_or_lot [.val (rD rows), .no] [(false, 0, rD rows)]) finZ = _
    rw [run]; rfl
  | some lot =>
    intro key
    obtain ⟨e', g1⟩ := key
    have run : exB Cn Zn W true beven_or_lot [.val (rD rows), .no] [(false, 0, rD rows)] = some (.rt (.tuple [.str "lot", iD lot]) true e') := by
      exact (exB_nx c0).trans (exB_rt (for_eq hI hx g1))
    show Option.bind (exB Cn Zn W true beven_or_lot [.val (rD rows), .no] [(false, 0, rD rows)]) finZ = _
    rw [run]; rfl
theorem even_ct {rows : List (List Int)} {m : Nat} (o : Ok rows m) : CT T W (n + 5) 9 [rD rows] = some (resD rows m, []) := by
  show getC (runT T W (n + 5) 9 [rD rows]) = _
  rw [even_of o]; rfl
theorem even_zt {rows : List (List Int)} {m : Nat} (o : Ok rows m) : ZT T W (n + 5) 9 [rD rows] = true := by
  show getZ (runT T W (n + 5) 9 [rD rows]) = _
  rw [even_of o]; rfl
/-- the law's own -/
theorem first_of {rows : List (List Int)} {m : Nat} (o : Ok rows m) : CT T W (n + 4) 20 [rD rows] = some (resD rows m, []) := by
  rw [ct_plain (T := T) (i := 20) (b := b_law_first) rfl rfl]
  let Cn := CT T W (n + 3)
  let Zn := ZT T W (n + 3)
  let E0 : En := [.val (rD rows), .no, .no, .no, .no]
  have hI : evI Cn Zn false .call [(.call 15 [] [(.prm .len [(.prm .ix [(.var 0), (.con (.int (0)))])])])] E0 [] = some ([rD (lotsI m)], false, E0) := by
    show Option.map _ (Option.bind (evL Cn [(.prm .len [(.prm .ix [(.var 0), (.con (.int (0)))])])] E0) _) = _
    rw [evL1 (first_len o rfl)]
    simp only [Option.bind_some, Cn, lots_of (W := W) (n := n + 2) (f := 15) (b := b_law_lots) rfl rfl o.m5, Option.map_some]
    rfl
  let st : En → Fl → Prop := fun e fl => (∃ s1 s2, e = [.val (rD rows), s1, s2, .no, .no] ∧ isMut s1 = false ∧ isMut s2 = false) ∧ fl = []
  let Fn : D → En → Fl → Option Fw := fun x e l => (asg (.nm 1) x e).bind fun e1 => exB Cn Zn W false [.asg .plain (.nm 2) (.comp [3] (.nm 3) .seq [(.call 18 [] [(.var 0), (.var 1)])] [] (.prm .len [(.call 19 [] [(.var 0), (.var 1), (.var 3)])])), .ite (.prm .ne [(.comp [4] (.nm 4) .seq [(.var 2)] [(.prm .ne [(.var 4), (.prm .ix [(.var 2), (.con (.int (0)))])])] (.var 4)), (.lst [])]) [.ret .plain (.tup [(.con (.str "lot")), (.var 1)])] []] e1 (updF false (false && decide (IK.seq = IK.seq)) (.nm 1) x l)
  have key := forL_find (F := Fn) (f := iD) (st := st) (p := fun lot => evenI rows lot) (r := fun lot => .tuple [.str "lot", iD lot]) (bf := false) (l := lotsI m) (e := E0) (fl := []) (fun e fl lot hlot hs => by
    obtain ⟨⟨s1, s2, rfl, m1, m2⟩, rfl⟩ := hs
    have hb : isBrw s1 = false := by cases s1 <;> first | rfl | cases m1
    have hb2 : isBrw s2 = false := by cases s2 <;> first | rfl | cases m2
    obtain ⟨h1, h2⟩ := lots_fit o hlot
    have hr : rows.length ≤ 500 := by have := o.few; omega
    obtain ⟨s, g1, _, g3⟩ := lshown_of (W := W) (n := n + 1) h1 h2 hr
    rw [← shI_eq g3] at g1
    have hh : ∀ l, CT T W (n + 3) 19 [rD rows, iD lot, iD l] = some (.list (havI rows lot l), []) := fun l => having_of 17 (f := 19) (b := b_law_having) rfl rfl (fun r hr => letters_of (f := 17) (b := b_law_letters) rfl rfl (h1 r hr) (by omega)) hr
    let E1 : En := [.val (rD rows), .val (iD lot), s2, .no, .no]
    let E2 : En := [.val (rD rows), .val (iD lot), .val (iD (cntI rows lot)), .no, .no]
    have c : ev Cn (.comp [3] (.nm 3) .seq [(.call 18 [] [(.var 0), (.var 1)])] [] (.prm .len [(.call 19 [] [(.var 0), (.var 1), (.var 3)])])) E1 = some (iD (cntI rows lot), E1) := by
      have e := ev_compM (C := Cn) (own := [3]) (tg := .nm 3) (ik := .seq) (its := [(.call 18 [] [(.var 0), (.var 1)])]) (ifs := []) (elt := .prm .len [(.call 19 [] [(.var 0), (.var 1), (.var 3)])]) (env := E1) (env1 := E1)
        (l := shI rows lot) (f := iD) (o := fun l => .int ((havI rows lot l).length : Int)) (ds := [rD (shI rows lot)]) (by simp [E1, Cn, evL, ev, rdF, slot, permL, g1]) (by have := shI_len (rows := rows) (lot := lot); simp [items, jSeq, rD, sz]; omega) rfl fun l hl => ?_
      · rw [e, cntI]
        simp [iD]
      · refine ⟨[.val (rD rows), .val (iD lot), s2, .val (iD l), .no], ?_, by simp [wipeE, E1]⟩
        simp [E1, Cn, turnC, asg, wipeE, slot, isBrw, evT, ev, evB, opd, isMut, rdF, rsL, rs, pr, pr1, qLen, evL, permL, hh]
    have q := asg_eq (C := Cn) (Z := Zn) (W := W) (fl := []) (i := 2) c hb2 (by simp [E1])
    have cc : ev Cn (.comp [4] (.nm 4) .seq [(.var 2)] [(.prm .ne [(.var 4), (.prm .ix [(.var 2), (.con (.int (0)))])])] (.var 4)) E2 = some (.list ((cntI rows lot).filterMap fun c => if c = (cntI rows lot).getD 0 0 then none else some (.int c)), E2) := by
      refine ev_comp (l := cntI rows lot) (f := .int) (o := fun c => if c = (cntI rows lot).getD 0 0 then none else some (.int c)) (ds := [iD (cntI rows lot)]) rfl (by have := shI_len (rows := rows) (lot := lot); simp [items, jSeq, iD, sz, cntI]; omega) rfl fun c hc => ?_
      refine ⟨[.val (rD rows), .val (iD lot), .val (iD (cntI rows lot)), .no, .val (.int c)], ?_, rfl⟩
      have q0 := atD_zero hc
      have q1 : ev Cn (.prm .ix [(.var 2), (.con (.int (0)))]) [.val (rD rows), .val (iD lot), .val (iD (cntI rows lot)), .no, .val (.int c)] = some (.int ((cntI rows lot).getD 0 0), [.val (rD rows), .val (iD lot), .val (iD (cntI rows lot)), .no, .val (.int c)]) :=
        prm2_eq (opd_val (d := iD (cntI rows lot)) rfl) (opd_ex (e1 := [.val (rD rows), .val (iD lot), .val (iD (cntI rows lot)), .no, .val (.int c)]) (d := .int 0) (fun _ z => by cases z) rfl) rfl rfl q0
      have q2 := prm2_eq (p := .ne) (a := .var 4) (opd_val (d := .int c) rfl) (opd_ex (fun _ z => by cases z) q1) rfl rfl (ne_ii _ _)
      unfold turnC
      rw [show asg (.nm 4) (PyData.int c) (wipeE E2 [4]) = some [.val (rD rows), .val (iD lot), .val (iD (cntI rows lot)), .no, .val (.int c)] from rfl]
      simp only [Option.bind_some, evT, q2, isTrueD]
      by_cases hcz : c = (cntI rows lot).getD 0 0
      · rw [if_pos hcz, decide_eq_true hcz]; rfl
      · rw [if_neg hcz, decide_eq_false hcz]; rfl
    have ci : ev Cn (.prm .ne [(.comp [4] (.nm 4) .seq [(.var 2)] [(.prm .ne [(.var 4), (.prm .ix [(.var 2), (.con (.int (0)))])])] (.var 4)), (.lst [])]) E2 = some (.bool (!evenI rows lot), E2) := by
      have hz : ∀ (l : List Int) (z : Int), l.filterMap (fun c => if c = z then none else some (PyData.int c)) = (l.filter fun c => !decide (c = z)).map .int := by
        intro l z
        induction l with
        | nil => rfl
        | cons c l ih =>
          by_cases hcz : c = z
          · rw [List.filterMap_cons_none (by rw [if_pos hcz]), ih, List.filter_cons_of_neg (by simp [hcz])]
          · rw [List.filterMap_cons_some (by rw [if_neg hcz]), ih, List.filter_cons_of_pos (by simp [hcz]), List.map_cons]
      rw [hz] at cc
      have ne_i : ∀ a b : List Int, qNe (iD a) (iD b) = some (.bool (!decide (a = b))) := fun a b => by
        unfold qNe
        rw [if_pos (by simp [eqOk, shaped_i]), eqv_i]
      have e := prm2_eq (p := .ne) (b := .lst []) (opd_ex (fun _ z => by cases z) cc) (opd_ex (e1 := E2) (d := .list []) (fun _ z => by cases z) rfl) rfl rfl (ne_i _ [])
      rw [e]
      have : decide ((cntI rows lot).filter (fun c => !decide (c = (cntI rows lot).getD 0 0)) = []) = evenI rows lot := by
        unfold evenI
        rw [Bool.eq_iff_iff]
        simp [List.filter_eq_nil_iff, List.all_eq_true]
      rw [this]
    have hF : Fn (iD lot) [.val (rD rows), s1, s2, .no, .no] [] = exB Cn Zn W false [.ite (.prm .ne [(.comp [4] (.nm 4) .seq [(.var 2)] [(.prm .ne [(.var 4), (.prm .ix [(.var 2), (.con (.int (0)))])])] (.var 4)), (.lst [])]) [.ret .plain (.tup [(.con (.str "lot")), (.var 1)])] []] E2 [] := by
      show Option.bind (asg (.nm 1) (iD lot) [.val (rD rows), s1, s2, .no, .no]) _ = _
      rw [show asg (.nm 1) (iD lot) [.val (rD rows), s1, s2, .no, .no] = some E1 by simp [asg, slot, hb, E1]]
      exact exB_nx q
    refine ⟨fun hp => ⟨E2, [], ?_, ⟨⟨_, _, rfl, rfl, rfl⟩, rfl⟩⟩, fun hp => ⟨E2, ?_⟩⟩
    · have hp : evenI rows lot = true := hp
      rw [hF]
      exact (exB_nx (e := E2) (l := []) ((ite_eq ci).trans (by rw [hp]; rfl))).trans rfl
    · have hp : evenI rows lot = false := hp
      rw [hF]
      refine exB_rt ((ite_eq ci).trans ?_)
      rw [hp]
      rfl) ⟨⟨.no, .no, rfl, rfl, rfl⟩, rfl⟩
  have hx : items .seq [rD (lotsI m)] = some ((lotsI m).map iD) := by
    have := (lotsI_ok o.m5).1
    simp [items, jSeq, rD, sz]; omega
  unfold resD
  revert key
  cases hfind : (lotsI m).find? fun lot => !evenI rows lot with
  | none =>
    intro key
    obtain ⟨e', fl', g1, ⟨s1, s2, rfl, m1, m2⟩, rfl⟩ := key
    refine run_rt (b := false) (e := [.val (rD rows), s1, s2, .no, .no]) ?_
    exact (exB_nx (for_eq hI hx g1)).trans (exB_rt rfl)
  | some lot =>
    intro key
    obtain ⟨e', g1⟩ := key
    exact run_rt (b := false) (e := e') (exB_rt (for_eq hI hx g1))
end
end K56

namespace K56
open PySem PD
section
variable {W n : Nat}
/-! ### the text of rows -/
theorem sok_app {a b : Str} (ha : PyData.strOk a = true) (hb : PyData.strOk b = true) : PyData.strOk (a ++ b) = true := by
  unfold PyData.strOk at ha hb ⊢
  show (a.cps ++ b.cps).all _ = true
  rw [Array.all_append, ha, hb]; rfl
theorem text_from (k : Nat) : ∀ (ts : List Str) (i : Nat) (acc : Str), (∀ t ∈ ts, t.length ≤ k ∧ PyData.strOk t = true) → PyData.strOk acc = true → (PySem.textFrom i acc ts).length ≤ acc.length + ts.length * (k + 2) ∧ PyData.strOk (PySem.textFrom i acc ts) = true
  | [], i, acc, _, h => ⟨Nat.le_add_right _ _, h⟩
  | t :: r, i, acc, ht, h => by
    obtain ⟨h1, h2⟩ := ht t List.mem_cons_self
    have hc : PyData.strOk ((if i > 0 then ", " else "" : String) : Str) = true := by split <;> decide +kernel
    have hl : ((if i > 0 then ", " else "" : String) : Str).length ≤ 2 := by split <;> decide +kernel
    obtain ⟨a, b⟩ := text_from k r (i + 1) (acc ++ (if i > 0 then ", " else "" : String) ++ t) (fun u hu => ht u (List.mem_cons_of_mem _ hu)) (sok_app (sok_app h hc) h2)
    refine ⟨?_, b⟩
    have e : (acc ++ (if i > 0 then ", " else "" : String) ++ t).length ≤ acc.length + 2 + k := by
      rw [PySem.Str.length_append, PySem.Str.length_append]; omega
    show (PySem.textFrom (i + 1) (acc ++ (if i > 0 then ", " else "" : String) ++ t) r).length ≤ _
    rw [List.length_cons, Nat.succ_mul]; omega
theorem text_list {k : Nat} {ts : List Str} (h : ∀ t ∈ ts, t.length ≤ k ∧ PyData.strOk t = true) : (PySem.listText ts).length ≤ ts.length * (k + 2) + 2 ∧ PyData.strOk (PySem.listText ts) = true := by
  obtain ⟨a, b⟩ := text_from k ts 0 "[" h (by decide +kernel)
  have e1 : (("[" : String) : Str).length = 1 := by decide +kernel
  have e2 : (("]" : String) : Str).length = 1 := by decide +kernel
  refine ⟨?_, sok_app b (by decide +kernel)⟩
  show (PySem.textFrom 0 "[" ts ++ "]").length ≤ _
  rw [PySem.Str.length_append, e2]
  rw [e1] at a; omega
theorem digit {x : Int} (h : 0 ≤ x ∧ x ≤ 9) : (PyData.shown (.int x)).length ≤ 1 ∧ PyData.strOk (PyData.shown (.int x)) = true := by
  obtain ⟨h1, h2⟩ := h
  have : x = 0 ∨ x = 1 ∨ x = 2 ∨ x = 3 ∨ x = 4 ∨ x = 5 ∨ x = 6 ∨ x = 7 ∨ x = 8 ∨ x = 9 := by omega
  rcases this with rfl | rfl | rfl | rfl | rfl | rfl | rfl | rfl | rfl | rfl <;> decide +kernel
theorem row_text {row : List Int} (hl : row.length ≤ 5) (hd : ∀ x ∈ row, 0 ≤ x ∧ x ≤ 9) : (PyData.shown (iD row)).length ≤ 17 ∧ PyData.strOk (PyData.shown (iD row)) = true := by
  have e : ∀ l : List Int, PyData.shownAll (l.map .int) = l.map fun x => PyData.shown (.int x) := fun l => by
    induction l with
    | nil => rfl
    | cons x l ih => rw [List.map_cons, PyData.shownAll, ih]; rfl
  obtain ⟨a, b⟩ := text_list (k := 1) (ts := row.map fun x => PyData.shown (.int x)) fun t ht => by
    obtain ⟨x, hx, rfl⟩ := List.mem_map.mp ht
    exact digit (hd x hx)
  rw [List.length_map] at a
  show (PySem.listText (PyData.shownAll (row.map .int))).length ≤ _ ∧ PyData.strOk (PySem.listText (PyData.shownAll (row.map .int))) = true
  rw [e]
  exact ⟨by omega, b⟩
theorem repr_of {rows : List (List Int)} {m : Nat} (o : Ok rows m) : ∃ x : Str, qRepr (rD rows) = some (.str x) ∧ SeqAt.shaped (.str x) = true := by
  have e : ∀ l : List (List Int), PyData.shownAll (l.map iD) = l.map fun x => PyData.shown (iD x) := fun l => by
    induction l with
    | nil => rfl
    | cons x l ih => rw [List.map_cons, PyData.shownAll, ih]; rfl
  obtain ⟨a, b⟩ := text_list (k := 17) (ts := rows.map fun x => PyData.shown (iD x)) fun t ht => by
    obtain ⟨r, hr, rfl⟩ := List.mem_map.mp ht
    exact row_text (by rw [o.len r hr]; exact o.m5) (o.dig r hr)
  rw [List.length_map, ← e] at a
  rw [← e] at b
  refine ⟨PyData.shown (rD rows), ?_, ?_⟩
  · have s1 : ∀ l : List Int, (∀ x ∈ l, 0 ≤ x ∧ x ≤ 9) → PyData.showableAll (l.map .int) = true ∧ PyData.hasDictAll (l.map .int) = false := fun l hl => by
      induction l with
      | nil => exact ⟨rfl, rfl⟩
      | cons x l ih =>
        obtain ⟨i1, i2⟩ := ih fun y hy => hl y (List.mem_cons_of_mem _ hy)
        have hx := hl x List.mem_cons_self
        have : x.natAbs.log2 < 1920 := Nat.lt_of_le_of_lt (log_le (k := 4) (by omega)) (by decide)
        rw [List.map_cons, PyData.showableAll, PyData.hasDictAll, i1, i2]
        simp [PyData.showable, PyData.hasDict, this]
    have s2 : ∀ l : List (List Int), (∀ r ∈ l, ∀ x ∈ r, 0 ≤ x ∧ x ≤ 9) → PyData.showableAll (l.map iD) = true ∧ PyData.hasDictAll (l.map iD) = false := fun l hl => by
      induction l with
      | nil => exact ⟨rfl, rfl⟩
      | cons x l ih =>
        obtain ⟨i1, i2⟩ := ih fun y hy => hl y (List.mem_cons_of_mem _ hy)
        obtain ⟨j1, j2⟩ := s1 x (hl x List.mem_cons_self)
        rw [List.map_cons, PyData.showableAll, PyData.hasDictAll, i1, i2]
        simp [iD, PyData.showable, PyData.hasDict, j1, j2]
    obtain ⟨k1, k2⟩ := s2 rows o.dig
    have hd := (lay_rows rows).2
    have hlen : (PyData.shown (rD rows)).length ≤ 1000000 := by
      show (PySem.listText (PyData.shownAll (rows.map iD))).length ≤ _
      have := o.few; omega
    have hdep : (rD rows).depth ≤ 64 := by
      show PyData.depthAll (rows.map iD) + 1 ≤ 64
      omega
    have hk : (rD rows).showable = true := k1
    have hn : (rD rows).hasDict = false := k2
    have hok : reprOk (rD rows) = true := by
      unfold reprOk
      rw [hk, hn, decide_eq_true hdep]
      exact decide_eq_true hlen
    unfold qRepr
    rw [if_pos hok]
  · show (PyData.strOk (PySem.listText (PyData.shownAll (rows.map iD))) && decide ((0 : Nat) ≤ 64)) = true
    rw [b]; rfl
end
end K56

namespace K56
open PySem PD
section
variable {W n : Nat}
theorem plain_ints (l : List Int) (h : l.length ≤ 1000) : plainT 2 (iD l) = true := by
  show (decide ((l.map PyData.int).length ≤ 1000) && (l.map PyData.int).all (plainT 1)) = true
  rw [Bool.and_eq_true, decide_eq_true_eq, List.length_map, List.all_eq_true]
  refine ⟨h, fun d hd => ?_⟩
  obtain ⟨x, _, rfl⟩ := List.mem_map.mp hd
  rfl
theorem plain_res {rows : List (List Int)} {m : Nat} (o : Ok rows m) : plainT 3 (resD rows m) = true ∧ plainT 4 (.list [resD rows m, resD rows m]) = true := by
  have h : plainT 3 (resD rows m) = true := by
    unfold resD
    split
    · show (decide (([PyData.str "even"] : List D).length ≤ 1000) && ([PyData.str "even"] : List D).all (plainT 2)) = true
      decide +kernel
    · rename_i lot hf
      have hm := List.mem_of_find?_eq_some hf
      have := (lots_fit o hm).2
      have e := plain_ints lot this
      have s : plainT 2 (.str "lot") = true := by decide +kernel
      show (decide (([PyData.str "lot", iD lot] : List D).length ≤ 1000) && (plainT 2 (.str "lot") && (plainT 2 (iD lot) && true))) = true
      rw [e, s]
      rfl
  refine ⟨h, ?_⟩
  show (decide (([resD rows m, resD rows m] : List D).length ≤ 1000) && (plainT 3 (resD rows m) && (plainT 3 (resD rows m) && true))) = true
  rw [h]; rfl
theorem right_of {rows : List (List Int)} {m : Nat} (o : Ok rows m) : CT T W (n + 6) 21 [rD rows] = some (.bool true, []) := by
  obtain ⟨x, hx, sx⟩ := repr_of o
  obtain ⟨p3, p4⟩ := plain_res o
  show getC (runT T W (n + 6) 21 [rD rows]) = _
  rw [run_tr (T := T) (i := 21) (b := b_law_right) rfl rfl]
  let Cn := CT T W (n + 5)
  let Zn := ZT T W (n + 5)
  let R := resD rows m
  have ce : Cn 9 [rD rows] = some (R, []) := even_ct o
  have ze : Zn 9 [rD rows] = true := even_zt o
  have cf : Cn 20 [rD rows] = some (R, []) := first_of (n := n + 1) o
  have cs : ∀ d, plainT 4 d = true → Cn 14 [d, d] = some (.bool true, []) := fun d hd => same_ok 4 d hd (n + 5) (by omega)
  let fl0 : Fl := [(false, 0, rD rows)]
  let E1 : En := [.val (rD rows), .val (.str x), .val R, .val R]
  -- kept, due, told
  obtain ⟨b2, f1⟩ : ∃ b2 : Bool, evFL Cn Zn true [(.plain, (.prm .repr [(.var 0)])), (.call, (.call 20 [] [(.var 0)])), (.call, (.call 9 [] [(.var 0)]))] [.val (rD rows), .no, .no, .no] fl0 = some ([(.str x, true), (R, b2), (R, true)], [.val (rD rows), .no, .no, .no]) := by
    refine ⟨true && (Zn 20 [rD rows] || lfs [rD rows] || lf R), ?_⟩
    have a1 : evF Cn Zn true .plain (.prm .repr [(.var 0)]) [.val (rD rows), .no, .no, .no] fl0 = some (.str x, true, [.val (rD rows), .no, .no, .no]) := by
      show Option.map _ (ev Cn (.prm .repr [(.var 0)]) [.val (rD rows), .no, .no, .no]) = _
      rw [prm1_eq (C := Cn) (p := .repr) (a := .var 0) (env := [.val (rD rows), .no, .no, .no]) (opd_val (d := rD rows) rfl) rfl hx]; rfl
    have a2 : evF Cn Zn true .call (.call 20 [] [(.var 0)]) [.val (rD rows), .no, .no, .no] fl0 = some (R, true && (Zn 20 [rD rows] || lfs [rD rows] || lf R), [.val (rD rows), .no, .no, .no]) := by
      have v : evL Cn [(.var 0)] [.val (rD rows), .no, .no, .no] = some ([rD rows], [.val (rD rows), .no, .no, .no]) := rfl
      simp only [evF, v, Option.bind_some, cf, Option.map_some]
    have a3 : evF Cn Zn true .call (.call 9 [] [(.var 0)]) [.val (rD rows), .no, .no, .no] fl0 = some (R, true, [.val (rD rows), .no, .no, .no]) := by
      have v : evL Cn [(.var 0)] [.val (rD rows), .no, .no, .no] = some ([rD rows], [.val (rD rows), .no, .no, .no]) := rfl
      simp only [evF, v, Option.bind_some, ce, Option.map_some, ze, Bool.true_or, Bool.and_self]
    rw [evFL, a1]
    simp only [Option.bind_some]
    rw [evFL, a2]
    simp only [Option.bind_some]
    rw [evFL, a3]
    rfl
  let fl3 : Fl := parF true [1, 2, 3] [(.str x, true), (R, b2), (R, true)] fl0
  have s1 : exS Cn Zn W true (.par [1, 2, 3] [(.plain, (.prm .repr [(.var 0)])), (.call, (.call 20 [] [(.var 0)])), (.call, (.call 9 [] [(.var 0)]))]) [.val (rD rows), .no, .no, .no] fl0 = some (.nx E1 fl3) := by
    rw [exS, f1]; rfl
  have c2 : ev Cn (.not (.call 14 [] [(.lst [(.var 3), (.call 9 [0] [(.var 0)])]), (.lst [(.var 2), (.var 2)])])) E1 = some (.bool false, E1) := by
    have k1 : ev Cn (.call 9 [0] [(.var 0)]) E1 = some (R, E1) := by
      rw [ev]
      show Option.bind (some ([rD rows], E1)) _ = _
      simp only [Option.bind_some]
      show Option.bind (some [rD rows]) _ = _
      simp only [Option.bind_some, ce, Option.map_some]
    have k2 : ev Cn (.lst [(.var 3), (.call 9 [0] [(.var 0)])]) E1 = some (.list [R, R], E1) := by
      rw [ev, evL, show ev Cn (.var 3) E1 = some (R, E1) from rfl]
      simp only [Option.bind_some, evL1 k1, Option.map_some]
    have k3 : ev Cn (.lst [(.var 2), (.var 2)]) E1 = some (.list [R, R], E1) := rfl
    rw [ev, ev, evL, k2]
    have q := cs (.list [R, R]) p4
    simp only [Option.bind_some, evL1 k3, Option.map_some, permL, q, isTrueD, Bool.not_true]
  have hend : ∀ (E : En) (fl : Fl), slot E 0 = .val (rD rows) → slot E 1 = .val (.str x) → ∃ b, exS Cn Zn W true (.ret .plain (.and (.call 14 [] [(.call 9 [] [(.var 0)]), (.call 20 [] [(.var 0)])]) (.prm .eq [(.prm .repr [(.var 0)]), (.var 1)]))) E fl = some (.rt (.bool true) b E) := fun E fl h0 h1 => by
    have v0 : evL Cn [(.var 0)] E = some ([rD rows], E) := evL1 (by simp [ev, rdF, h0])
    have k1 : ev Cn (.call 9 [] [(.var 0)]) E = some (R, E) := by
      rw [ev, v0]
      simp only [Option.bind_some, permL, ce, Option.map_some]
    have k2 : ev Cn (.call 20 [] [(.var 0)]) E = some (R, E) := by
      rw [ev, v0]
      simp only [Option.bind_some, permL, cf, Option.map_some]
    have k3 : ev Cn (.call 14 [] [(.call 9 [] [(.var 0)]), (.call 20 [] [(.var 0)])]) E = some (.bool true, E) := by
      have p4' : plainT 4 R = true := by
        have : ∀ k d, plainT k d = true → plainT (k + 1) d = true := by
          intro k
          induction k with
          | zero => intro d h; cases h
          | succ k ih =>
            intro d h
            cases d with
            | list ds =>
              have h : (decide (ds.length ≤ 1000) && ds.all (plainT k)) = true := h
              rw [Bool.and_eq_true, List.all_eq_true] at h
              show (decide (ds.length ≤ 1000) && ds.all (plainT (k + 1))) = true
              rw [Bool.and_eq_true, List.all_eq_true]
              exact ⟨h.1, fun x hx => ih x (h.2 x hx)⟩
            | tuple ds =>
              have h : (decide (ds.length ≤ 1000) && ds.all (plainT k)) = true := h
              rw [Bool.and_eq_true, List.all_eq_true] at h
              show (decide (ds.length ≤ 1000) && ds.all (plainT (k + 1))) = true
              rw [Bool.and_eq_true, List.all_eq_true]
              exact ⟨h.1, fun x hx => ih x (h.2 x hx)⟩
            | int i => rfl
            | str x => exact h
            | _ => cases h
        exact this 3 R p3
      rw [ev, evL, k1]
      simp only [Option.bind_some, evL1 k2, Option.map_some, permL, cs _ p4']
    have kr := prm1_eq (C := Cn) (p := .repr) (a := .var 0) (env := E) (opd_val h0) rfl hx
    have hq : qEq (.str x) (.str x) = some (.bool true) := by
      unfold qEq
      rw [if_pos (by simp [eqOk, sx])]
      simp [PyData.eqv]
    have ke := prm2_eq (p := .eq) (b := .var 1) (opd_ex (fun _ z => by cases z) kr) (opd_val h1) rfl rfl hq
    have k4 : ev Cn (.and (.call 14 [] [(.call 9 [] [(.var 0)]), (.call 20 [] [(.var 0)])]) (.prm .eq [(.prm .repr [(.var 0)]), (.var 1)])) E = some (.bool true, E) := by
      rw [ev, k3]
      simp only [Option.bind_some, isTrueD, if_true]
      exact ke
    exact ⟨_, by rw [exS, evF, k4]; rfl⟩
  have fin : ∀ {b : Bool} {e : En}, exB Cn Zn W true b_law_right [.val (rD rows), .no, .no, .no] fl0 = some (.rt (.bool true) b e) → getC ((exB Cn Zn W true b_law_right ([rD rows].map Slot.val ++ List.replicate (4 - 1) .no) (oldOf [rD rows] 0)).bind finZ) = some (.bool true, []) := fun {b e} h => by
    show getC (Option.bind (exB Cn Zn W true b_law_right [.val (rD rows), .no, .no, .no] fl0) finZ) = _
    rw [h]; rfl
  have pre : ∀ r, exB Cn Zn W true (.ite (.not (.call 14 [] [(.lst [(.var 3), (.call 9 [0] [(.var 0)])]), (.lst [(.var 2), (.var 2)])])) [.ret .plain (.con (.bool false))] [] :: r) E1 fl3 = exB Cn Zn W true r E1 fl3 := fun r => exB_nx (e := E1) (l := fl3) ((ite_eq c2).trans rfl)
  cases hres : (lotsI m).find? fun lot => !evenI rows lot with
  | none =>
    have hR : R = .tuple [.str "even"] := by show resD rows m = _; unfold resD; rw [hres]
    have c3 : ev Cn (.prm .eq [(.prm .len [(.var 3)]), (.con (.int (2)))]) E1 = some (.bool false, E1) := by
      have l3 : ev Cn (.prm .len [(.var 3)]) E1 = some (.int 1, E1) := prm1_eq (opd_val (d := R) rfl) rfl (by rw [hR]; rfl)
      exact prm2_eq (opd_ex (fun _ z => by cases z) l3) (opd_ex (e1 := E1) (d := .int 2) (fun _ z => by cases z) rfl) rfl rfl (eq_ii 1 2)
    obtain ⟨b, hb⟩ := hend E1 fl3 rfl rfl
    exact fin ((exB_nx s1).trans ((pre _).trans ((exB_nx (e := E1) (l := fl3) ((ite_eq c3).trans rfl)).trans (exB_rt hb))))
  | some lot =>
    have hR : R = .tuple [.str "lot", iD lot] := by show resD rows m = _; unfold resD; rw [hres]
    have hlot := (lots_fit o (List.mem_of_find?_eq_some hres)).2
    have c3 : ev Cn (.prm .eq [(.prm .len [(.var 3)]), (.con (.int (2)))]) E1 = some (.bool true, E1) := by
      have l3 : ev Cn (.prm .len [(.var 3)]) E1 = some (.int 2, E1) := prm1_eq (opd_val (d := R) rfl) rfl (by rw [hR]; rfl)
      exact prm2_eq (opd_ex (fun _ z => by cases z) l3) (opd_ex (e1 := E1) (d := .int 2) (fun _ z => by cases z) rfl) rfl rfl (eq_ii 2 2)
    -- what is new is written: the rows stay
    have hcut : ∃ E : En, cutE E1 fl3 = E ∧ slot E 3 = .val R := by
      refine ⟨_, rfl, ?_⟩
      show slot (setAll true (E1.map lfSlot) ((true, 3, R) :: rmF [3] (updF true b2 (.nm 2) R (updF true true (.nm 1) (.str x) fl0)))) 3 = .val R
      rw [setAll, if_pos rfl]
      exact slot_set_same (by rw [setAll_len]; simp [E1])
    obtain ⟨Ec, hEc, hs3⟩ := hcut
    have k1 : ev Cn (.prm .ix [(.var 3), (.con (.int (1)))]) Ec = some (iD lot, Ec) := prm2_eq (opd_val hs3) (opd_ex (e1 := Ec) (d := .int 1) (fun _ z => by cases z) rfl) rfl rfl (by rw [hR]; rfl)
    have hreb : slot (rebE E1 fl3) 0 = .val (rD rows) ∧ slot (rebE E1 fl3) 1 = .val (.str x) := by
      cases b2 <;> exact ⟨rfl, rfl⟩
    have s3 : exS Cn Zn W true (.spoil (.prm .ix [(.var 3), (.con (.int (1)))]) "spoilt") E1 fl3 = some (.nx (rebE E1 fl3) (oldF fl3)) := by
      rw [exS, if_pos rfl, hEc, k1]
      show (if sz (lot.map PyData.int).length = true then _ else none) = _
      rw [if_pos (by simp [sz]; omega)]
    obtain ⟨b, hb⟩ := hend (rebE E1 fl3) (oldF fl3) hreb.1 hreb.2
    exact fin ((exB_nx s1).trans ((pre _).trans ((exB_nx (e := rebE E1 fl3) (l := oldF fl3) ((ite_eq c3).trans (by rw [if_pos rfl]; exact (exB_nx s3).trans rfl))).trans (exB_rt hb))))
end
end K56

namespace K56
open PySem PD
section
variable {W n : Nat}
theorem mul_ii {a b : Int} (ha : a.natAbs < 2 ^ 200) (hb : b.natAbs < 2 ^ 200) : qMul (.int a) (.int b) = some (.int (a * b)) := by
  have h1 := log_le ha
  have h2 := log_le hb
  show (if a.natAbs.log2 + b.natAbs.log2 < 1000000 then some (PyData.int (a * b)) else none) = _
  rw [if_pos (by omega)]
theorem add_ii (a b : Int) : qAdd (.int a) (.int b) = some (.int (a + b)) := rfl
theorem mod_ii {a b : Int} (hb : 0 < b) : qMod (.int a) (.int b) = some (.int (a.fmod b)) ∧ 0 ≤ a.fmod b ∧ a.fmod b < b := by
  refine ⟨?_, Int.fmod_nonneg_of_pos a hb, Int.fmod_lt_of_pos a hb⟩
  show (if b ≠ 0 then some (PyData.int (a.fmod b)) else none) = _
  rw [if_pos (by omega)]
theorem gt_ii (a b : Int) : qGt (.int a) (.int b) = some (.bool (decide (a > b))) := by
  unfold qGt
  rw [if_pos (by simp [ordOk', ordOk, PySem.W.alike, PyData.depth]), PySem.W.dataLt_int]
theorem lt_ii (a b : Int) : qLt (.int a) (.int b) = some (.bool (decide (a < b))) := by
  unfold qLt
  rw [if_pos (by simp [ordOk', ordOk, PySem.W.alike, PyData.depth]), PySem.W.dataLt_int]
theorem hash_of {s i : Int} (hs : s.natAbs < 2 ^ 60) (hi : i.natAbs < 2 ^ 60) : ∃ v : Int, CT T W (n + 1) 10 [.int s, .int i] = some (.int v, []) ∧ 0 ≤ v ∧ v < 2147483647 := by
  rw [ct_plain (T := T) (i := 10) (b := b_law_hash) rfl rfl]
  let m1 : Int := (s * 1140671 + 27644437 * i * i + 131 * i + 19).fmod 2147483629
  obtain ⟨q1, q2, q3⟩ := mod_ii (a := s * 1140671 + 27644437 * i * i + 131 * i + 19) (b := 2147483629) (by decide)
  let m2 : Int := (m1 * m1 + 62089 * i + 32416187).fmod 2147483587
  obtain ⟨r1, r2, r3⟩ := mod_ii (a := m1 * m1 + 62089 * i + 32416187) (b := 2147483587) (by decide)
  obtain ⟨t1, t2, t3⟩ := mod_ii (a := m2 * 48271) (b := 2147483647) (by decide)
  have hm1 : m1.natAbs < 2 ^ 200 := by have : 0 ≤ m1 := q2; have : m1 < 2147483629 := q3; omega
  have hm2 : m2.natAbs < 2 ^ 200 := by have : 0 ≤ m2 := r2; have : m2 < 2147483587 := r3; omega
  have c1 := mul_ii (a := s) (b := 1140671) (by omega) (by decide)
  have c2 := mul_ii (a := 27644437) (b := i) (by decide) (by omega)
  have c3 := mul_ii (a := 27644437 * i) (b := i) (by omega) (by omega)
  have c4 := mul_ii (a := 131) (b := i) (by decide) (by omega)
  have c5 := mul_ii hm1 hm1
  have c6 := mul_ii (a := 62089) (b := i) (by decide) (by omega)
  have c7 := mul_ii (a := m2) (b := 48271) hm2 (by decide)
  refine ⟨(m2 * 48271).fmod 2147483647, ?_, t2, t3⟩
  let E0 : En := [.val (.int s), .val (.int i), .no]
  let E1 : En := [.val (.int s), .val (.int i), .val (.int m1)]
  let E2 : En := [.val (.int s), .val (.int i), .val (.int m2)]
  refine run_rt (b := false) (e := E2) ?_
  refine (exB_nx (e := E1) (l := []) (asg_eq (i := 2) (env1 := E0) (d := .int m1) ?_ rfl (by simp [E0]))).trans ((exB_nx (e := E2) (l := []) (asg_eq (i := 2) (env1 := E1) (d := .int m2) ?_ rfl (by simp [E1]))).trans (exB_rt (ret_eq (env1 := E2) ?_)))
  · simp only [E0, ev, evB, opd, slot, List.map_cons, List.map_nil, List.replicate, List.cons_append, List.nil_append, Nat.reduceSub, List.getD_cons_succ, List.getD_cons_zero, rdF, isMut, Bool.false_eq_true, if_false, Option.bind_some, Option.map_some, rsL, rs, pr, pr2, pr1, c1, c2, c3, c4, add_ii, qInt, q1]
    rfl
  · simp only [E1, ev, evB, opd, slot, List.getD_cons_succ, List.getD_cons_zero, rdF, isMut, Bool.false_eq_true, if_false, Option.bind_some, Option.map_some, rsL, rs, pr, pr2, pr1, c5, c6, add_ii, qInt, r1]
    rfl
  · simp only [E2, ev, evB, opd, slot, List.getD_cons_succ, List.getD_cons_zero, rdF, isMut, Bool.false_eq_true, if_false, Option.bind_some, Option.map_some, rsL, rs, pr, pr2, pr1, c7, qInt, t1]
def G (lim : Nat) (gs : List D) : Prop := ∃ a b c : Int, gs = [.int a, .int b, .int c] ∧ 0 ≤ b ∧ b < 2147483647 ∧ 0 ≤ c ∧ c ≤ lim
def Few (k : Int) : Prop := k = 2 ∨ k = 3 ∨ k = 4 ∨ k = 8
theorem few_bits {k : Int} (h : Few k) : qFdiv (.int (Builtin.Int.intBits k : Nat)) (.int 30) = some (.int 0) := by
  rcases h with rfl | rfl | rfl | rfl <;> rfl
theorem random_of {gs : List D} {k : Int} {lim : Nat} (g : G lim gs) (hl : lim ≤ 1000000) (hk : Few k) : ∃ (v : Int) (gs' : List D), CT T W (n + 2) 11 [.list gs, .int k] = some (.int v, gs') ∧ G (lim + 1) gs' ∧ 0 ≤ v ∧ v < k := by
  obtain ⟨a, b, c, rfl, b0, b1, c0, c1⟩ := g
  have hk0 : 0 < k := by rcases hk with rfl | rfl | rfl | rfl <;> decide
  rw [ct_mut (T := T) (i := 11) (b := b_law_random) (dr := [.int k]) rfl rfl]
  let Cn := CT T W (n + 1)
  let E : List D → PD.Slot → PD.Slot → En := fun gs d t => [.brw gs, .val (.int k), d, t]
  have ix : ∀ (a b c : Int) (d t : PD.Slot) (j : Nat), j < 3 → ev Cn (.prm .ix [(.var 0), (.con (.int (j : Nat)))]) (E [.int a, .int b, .int c] d t) = some (([.int a, .int b, .int c] : List D).getD j .none, E [.int a, .int b, .int c] d t) := fun a b c d t j hj => by
    refine prm2_eq (oa := .inr 0) rfl (opd_ex (e1 := E [.int a, .int b, .int c] d t) (d := .int (j : Nat)) (fun _ z => by cases z) rfl) rfl rfl ?_
    match j, hj with
    | 0, _ => rfl
    | 1, _ => rfl
    | 2, _ => rfl
  have h0 : ∀ d t, ev Cn (.prm .gt [(.prm .ix [(.var 0), (.con (.int (0)))]), (.con (.int (0)))]) (E [.int a, .int b, .int c] d t) = some (.bool (decide (a > 0)), E [.int a, .int b, .int c] d t) := fun d t =>
    prm2_eq (opd_ex (fun _ z => by cases z) (ix a b c d t 0 (by decide))) (opd_ex (e1 := E [.int a, .int b, .int c] d t) (d := .int 0) (fun _ z => by cases z) rfl) rfl rfl (gt_ii a 0)
  by_cases ha : a > 0
  · obtain ⟨m1, m2, m3⟩ := mod_ii (a := a) hk0
    have hf : qFdiv (.int a) (.int k) = some (.int (a.fdiv k)) := by
      show (if k ≠ 0 ∧ k.natAbs.log2 < 9000 then some (PyData.int (a.fdiv k)) else none) = _
      rw [if_pos ⟨by omega, Nat.lt_of_le_of_lt (log_le (k := 4) (by rcases hk with rfl | rfl | rfl | rfl <;> decide)) (by decide)⟩]
    refine ⟨a.fmod k, [.int (a.fdiv k), .int b, .int c], ?_, ⟨_, b, c, rfl, b0, b1, c0, by omega⟩, m2, m3⟩
    have d1 : ev Cn (.prm .mod [(.prm .int [(.prm .ix [(.var 0), (.con (.int (0)))])]), (.var 1)]) (E [.int a, .int b, .int c] .no .no) = some (.int (a.fmod k), E [.int a, .int b, .int c] .no .no) :=
      prm2_eq (opd_ex (fun _ z => by cases z) (prm1_eq (p := .int) (d := .int a) (opd_ex (fun _ z => by cases z) (ix a b c .no .no 0 (by decide))) rfl rfl)) (opd_val (d := .int k) rfl) rfl rfl m1
    have d2 : ev Cn (.prm .fdiv [(.prm .ix [(.var 0), (.con (.int (0)))]), (.var 1)]) (E [.int a, .int b, .int c] (.val (.int (a.fmod k))) .no) = some (.int (a.fdiv k), E [.int a, .int b, .int c] (.val (.int (a.fmod k))) .no) :=
      prm2_eq (opd_ex (fun _ z => by cases z) (ix a b c _ .no 0 (by decide))) (opd_val (d := .int k) rfl) rfl rfl hf
    have s1 : exS Cn (ZT T W (n + 1)) W false (.setix 0 (.con (.int (0))) (.prm .fdiv [(.prm .ix [(.var 0), (.con (.int (0)))]), (.var 1)])) (E [.int a, .int b, .int c] (.val (.int (a.fmod k))) .no) [] = some (.nx (E [.int (a.fdiv k), .int b, .int c] (.val (.int (a.fmod k))) .no) []) := by
      rw [exS, d2]; rfl
    have run : exB Cn (ZT T W (n + 1)) W false b_law_random (E [.int a, .int b, .int c] .no .no) [] = some (.rt (.int (a.fmod k)) false (E [.int (a.fdiv k), .int b, .int c] (.val (.int (a.fmod k))) .no)) := by
      refine exB_rt ((ite_eq (h0 .no .no)).trans ?_)
      rw [decide_eq_true ha, if_pos rfl]
      exact (exB_nx (e := E [.int a, .int b, .int c] (.val (.int (a.fmod k))) .no) (l := []) (asg_eq (i := 2) d1 rfl (by simp [E]))).trans ((exB_nx s1).trans (exB_rt (ret_eq rfl)))
    show Option.bind (exB Cn (ZT T W (n + 1)) W false b_law_random (E [.int a, .int b, .int c] .no .no) []) finM = _
    rw [run]; rfl
  · obtain ⟨v, hv, v0, v1⟩ := hash_of (W := W) (n := n) (s := b) (i := c + 1) (by omega) (by omega)
    obtain ⟨m1, m2, m3⟩ := mod_ii (a := 0 * 2147483587 + v) hk0
    refine ⟨(0 * 2147483587 + v).fmod k, [.int a, .int b, .int (c + 1)], ?_, ⟨a, b, c + 1, rfl, b0, b1, by omega, by omega⟩, m2, m3⟩
    let g0 : List D := [.int a, .int b, .int c]
    let g1 : List D := [.int a, .int b, .int (c + 1)]
    have d1 : ev Cn (.prm .add [(.prm .ix [(.var 0), (.con (.int (2)))]), (.con (.int (1)))]) (E g0 (.val (.int 0)) (.val (.int 0))) = some (.int (c + 1), E g0 (.val (.int 0)) (.val (.int 0))) :=
      prm2_eq (opd_ex (fun _ z => by cases z) (ix a b c _ _ 2 (by decide))) (opd_ex (e1 := E g0 (.val (.int 0)) (.val (.int 0))) (d := .int 1) (fun _ z => by cases z) rfl) rfl rfl rfl
    have s1 : exS Cn (ZT T W (n + 1)) W false (.setix 0 (.con (.int (2))) (.prm .add [(.prm .ix [(.var 0), (.con (.int (2)))]), (.con (.int (1)))])) (E g0 (.val (.int 0)) (.val (.int 0))) [] = some (.nx (E g1 (.val (.int 0)) (.val (.int 0))) []) := by
      rw [exS, d1]; rfl
    have hcall : ev Cn (.call 10 [] [(.prm .ix [(.var 0), (.con (.int (1)))]), (.prm .ix [(.var 0), (.con (.int (2)))])]) (E g1 (.val (.int 0)) (.val (.int 0))) = some (.int v, E g1 (.val (.int 0)) (.val (.int 0))) := by
      have i1 := ix a b (c + 1) (.val (.int 0)) (.val (.int 0)) 1 (by decide)
      have i2 := ix a b (c + 1) (.val (.int 0)) (.val (.int 0)) 2 (by decide)
      have i1' : ev Cn (.prm .ix [(.var 0), (.con (.int (1)))]) (E g1 (.val (.int 0)) (.val (.int 0))) = some (.int b, E g1 (.val (.int 0)) (.val (.int 0))) := i1
      have i2' : ev Cn (.prm .ix [(.var 0), (.con (.int (2)))]) (E g1 (.val (.int 0)) (.val (.int 0))) = some (.int (c + 1), E g1 (.val (.int 0)) (.val (.int 0))) := i2
      have hv' : Cn 10 [.int b, .int (c + 1)] = some (.int v, []) := hv
      rw [ev, evL, i1']
      simp only [Option.bind_some, evL1 i2', Option.map_some, permL, hv']
    have d2 : ev Cn (.prm .add [(.prm .mul [(.var 2), (.con (.int (2147483587)))]), (.call 10 [] [(.prm .ix [(.var 0), (.con (.int (1)))]), (.prm .ix [(.var 0), (.con (.int (2)))])])]) (E g1 (.val (.int 0)) (.val (.int 0))) = some (.int (0 * 2147483587 + v), E g1 (.val (.int 0)) (.val (.int 0))) :=
      prm2_eq (opd_ex (fun _ z => by cases z) (prm2_eq (p := .mul) (opd_val (d := .int 0) rfl) (opd_ex (e1 := E g1 (.val (.int 0)) (.val (.int 0))) (d := .int 2147483587) (fun _ z => by cases z) rfl) rfl rfl (mul_ii (a := 0) (b := 2147483587) (by decide) (by decide)))) (opd_ex (fun _ z => by cases z) hcall) rfl rfl (add_ii _ _)
    have hr : ev Cn (.prm .add [(.con (.int (1))), (.prm .fdiv [(.prm .mbits [(.var 1)]), (.con (.int (30)))])]) (E g0 (.val (.int 0)) .no) = some (.int 1, E g0 (.val (.int 0)) .no) := by
      have e1 : ev Cn (.prm .mbits [(.var 1)]) (E g0 (.val (.int 0)) .no) = some (.int (Builtin.Int.intBits k : Nat), E g0 (.val (.int 0)) .no) := prm1_eq (opd_val (d := .int k) rfl) rfl rfl
      have e2 := prm2_eq (p := .fdiv) (opd_ex (fun _ z => by cases z) e1) (opd_ex (a := .con (.int 30)) (e1 := E g0 (.val (.int 0)) .no) (d := .int 30) (fun _ z => by cases z) rfl) rfl rfl (few_bits hk)
      exact prm2_eq (opd_ex (e1 := E g0 (.val (.int 0)) .no) (d := .int 1) (fun _ z => by cases z) rfl) (opd_ex (fun _ z => by cases z) e2) rfl rfl rfl
    have d3 : ev Cn (.prm .mod [(.prm .int [(.var 2)]), (.var 1)]) (E g1 (.val (.int (0 * 2147483587 + v))) (.val (.int 0))) = some (.int ((0 * 2147483587 + v).fmod k), E g1 (.val (.int (0 * 2147483587 + v))) (.val (.int 0))) :=
      prm2_eq (opd_ex (fun _ z => by cases z) (prm1_eq (p := .int) (d := .int (0 * 2147483587 + v)) (opd_val (d := .int (0 * 2147483587 + v)) rfl) rfl rfl)) (opd_val (d := .int k) rfl) rfl rfl m1
    have sf : exS Cn (ZT T W (n + 1)) W false (.for .plain (.nm 3) .rng1 [(.prm .add [(.con (.int (1))), (.prm .fdiv [(.prm .mbits [(.var 1)]), (.con (.int (30)))])])] [.setix 0 (.con (.int (2))) (.prm .add [(.prm .ix [(.var 0), (.con (.int (2)))]), (.con (.int (1)))]), .asg .plain (.nm 2) (.prm .add [(.prm .mul [(.var 2), (.con (.int (2147483587)))]), (.call 10 [] [(.prm .ix [(.var 0), (.con (.int (1)))]), (.prm .ix [(.var 0), (.con (.int (2)))])])])]) (E g0 (.val (.int 0)) .no) [] = some (.nx (E g1 (.val (.int (0 * 2147483587 + v))) (.val (.int 0))) []) := by
      refine for_eq (ds := [.int 1]) (xs := [.int 0]) (b := false) (env1 := E g0 (.val (.int 0)) .no) (by rw [evI, evL1 hr]; rfl) rfl ?_
      rw [forL]
      show Option.bind (exB Cn (ZT T W (n + 1)) W false [.setix 0 (.con (.int (2))) (.prm .add [(.prm .ix [(.var 0), (.con (.int (2)))]), (.con (.int (1)))]), .asg .plain (.nm 2) (.prm .add [(.prm .mul [(.var 2), (.con (.int (2147483587)))]), (.call 10 [] [(.prm .ix [(.var 0), (.con (.int (1)))]), (.prm .ix [(.var 0), (.con (.int (2)))])])])] (E g0 (.val (.int 0)) (.val (.int 0))) []) _ = _
      rw [exB_nx s1, exB_nx (e := E g1 (.val (.int (0 * 2147483587 + v))) (.val (.int 0))) (l := []) (asg_eq (i := 2) d2 rfl (by simp [E]))]
      rfl
    have run : exB Cn (ZT T W (n + 1)) W false b_law_random (E g0 .no .no) [] = some (.rt (.int ((0 * 2147483587 + v).fmod k)) false (E g1 (.val (.int (0 * 2147483587 + v))) (.val (.int 0)))) := by
      refine (exB_nx (e := E g0 .no .no) (l := []) ((ite_eq (h0 .no .no)).trans (by rw [decide_eq_false ha]; rfl))).trans ?_
      refine (exB_nx (e := E g0 (.val (.int 0)) .no) (l := []) (asg_eq (i := 2) (d := .int 0) (env1 := E g0 .no .no) rfl rfl (by simp [E]))).trans ?_
      exact (exB_nx sf).trans (exB_rt (ret_eq d3))
    show Option.bind (exB Cn (ZT T W (n + 1)) W false b_law_random (E g0 .no .no) []) finM = _
    rw [run]; rfl
end
end K56

namespace K56
open PySem PD
section
variable {W n : Nat}
theorem atD_int' {l : List Int} {i : Nat} (h : i < l.length) : atD (l.map .int) (i : Nat) = some (.int l[i]) := by
  have := atD_nat (ds := l.map PyData.int) (i := i) (by simpa using h)
  simpa using this
/-- _law_cell -/
theorem cell_of (ns : List Int) (h : ns.length ≤ 63) (i : Nat) : ∃ s : Int, CT T W (n + 1) 12 [iD ns, .int (i : Nat)] = some (.int s, []) := by
  rw [ct_plain (T := T) (i := 12) (b := b_law_cell) rfl rfl]
  let Cn := CT T W n
  let E : En := [.val (iD ns), .val (.int (i : Nat))]
  have l0 : ev Cn (.prm .len [(.var 0)]) E = some (.int (ns.length : Nat), E) := prm1_eq (opd_val (d := iD ns) rfl) rfl (by simp [pr1, qLen, iD])
  have c1 := prm2_eq (p := .lt) (a := .var 1) (opd_val (d := .int (i : Nat)) rfl) (opd_ex (fun _ z => by cases z) l0) rfl rfl (lt_ii _ _)
  by_cases hi : i < ns.length
  · refine ⟨ns[i], run_rt (b := false) (e := E) (exB_rt ((ite_eq c1).trans ?_))⟩
    rw [decide_eq_true (by omega), if_pos rfl]
    exact exB_rt (ret_eq (prm2_eq (opd_val (d := iD ns) rfl) (opd_val (d := .int (i : Nat)) rfl) rfl rfl (atD_int' hi)))
  · obtain ⟨q1, q2, q3⟩ := mod_ii (a := (ns.take 1).sum) (b := 1000003) (by decide)
    refine ⟨(ns.take 1).sum.fmod 1000003, run_rt (b := false) (e := E) ((exB_nx (e := E) (l := []) ((ite_eq c1).trans (by rw [decide_eq_false (by omega)]; rfl))).trans (exB_rt (ret_eq ?_)))⟩
    have hs : ev Cn (.prm (.sl false true) [(.var 0), (.con (.int (1)))]) E = some (iD (ns.take 1), E) := by
      refine prm2_eq (opd_val (d := iD ns) rfl) (opd_ex (e1 := E) (d := .int 1) (fun _ z => by cases z) rfl) rfl rfl ?_
      show some (PyData.list (cutD (ns.map .int) none (some 1))) = _
      have : cutD (ns.map PyData.int) none (some 1) = (ns.take 1).map .int := by
        unfold cutD
        rw [HT.sIx_none, show HT.sIx (ns.map PyData.int).length (ns.map PyData.int).length (some 1) = min 1 (ns.map PyData.int).length from HT.sIx_nat _ _ 1, List.drop_zero, Nat.sub_zero]
        cases ns <;> simp
      rw [this]; rfl
    have io : ∀ l : List Int, intsOf (l.map .int) = some l := fun l => by
      induction l with
      | nil => rfl
      | cons x l ih => rw [List.map_cons, intsOf, ih]; rfl
    have hq : qSum (iD (ns.take 1)) = some (.int (ns.take 1).sum) := by
      show Option.map _ (intsOf ((ns.take 1).map .int)) = _
      rw [io]; rfl
    exact prm2_eq (p := .mod) (opd_ex (fun _ z => by cases z) (prm1_eq (p := .sum) (opd_ex (fun _ z => by cases z) hs) rfl hq)) (opd_ex (e1 := E) (d := .int 1000003) (fun _ z => by cases z) rfl) rfl rfl q1
/-- _law_generator: a new list -/
theorem gen_of (ns : List Int) (h : ns.length ≤ 63) (i : Nat) (hi : i < 8) : ∃ gs : List D, runT T W (n + 2) 13 [iD ns, .int (i : Nat)] = some (.list gs, [], true) ∧ G 7000 gs := by
  obtain ⟨s, hs⟩ := cell_of (W := W) (n := n) ns h i
  rw [run_tr (T := T) (i := 13) (b := b_law_generator) rfl rfl]
  let Cn := CT T W (n + 1)
  let Zn := ZT T W (n + 1)
  let E0 : En := [.val (iD ns), .val (.int (i : Nat)), .no]
  let E1 : En := [.val (iD ns), .val (.int (i : Nat)), .val (.int s)]
  let fl0 : Fl := [(false, 0, iD ns), (false, 1, .int (i : Nat))]
  let m : Int := if 0 > s - 10 ^ 18 then 0 else s - 10 ^ 18
  obtain ⟨q1, q2, q3⟩ := mod_ii (a := m) (b := (10 ^ 60) ^ 10) (by decide +kernel)
  obtain ⟨r1, r2, r3⟩ := mod_ii (a := s) (b := 2147483647) (by decide)
  have s1 : exS Cn Zn W true (.asg .call (.nm 2) (.call 12 [] [(.var 0), (.var 1)])) E0 fl0 = some (.nx E1 (updF true (true && (Zn 12 [iD ns, .int (i : Nat)] || lfs [iD ns, .int (i : Nat)] || lf (.int s))) (.nm 2) (.int s) fl0)) := by
    have v : evL Cn [(.var 0), (.var 1)] E0 = some ([iD ns, .int (i : Nat)], E0) := rfl
    have hs' : Cn 12 [iD ns, .int (i : Nat)] = some (.int s, []) := hs
    rw [exS]
    simp only [evF, v, Option.bind_some, hs', Option.map_some]
    rfl
  have hu : updF true (true && (Zn 12 [iD ns, .int (i : Nat)] || lfs [iD ns, .int (i : Nat)] || lf (.int s))) (.nm 2) (.int s) fl0 = [(true, 2, .int s), (false, 0, iD ns), (false, 1, .int (i : Nat))] := by
    have : (true && (Zn 12 [iD ns, .int (i : Nat)] || lfs [iD ns, .int (i : Nat)] || lf (.int s))) = true := by simp [lf]
    rw [this]; rfl
  rw [hu] at s1
  let Ec : En := [.no, .val (.int (i : Nat)), .val (.int s)]
  have hc : cutE E1 [(true, 2, .int s), (false, 0, iD ns), (false, 1, .int (i : Nat))] = Ec := rfl
  have c2 : ev Cn (.lst [(.prm .mod [(.prm .int [(.prm .max2 [(.prm .sub [(.var 2), (.prm .pow [(.con (.int (10))), (.con (.int (18)))])]), (.con (.int (0)))])]), (.prm .pow [(.prm .pow [(.con (.int (10))), (.con (.int (60)))]), (.con (.int (10)))])]), (.prm .mod [(.prm .int [(.var 2)]), (.con (.int (2147483647)))]), (.prm .mul [(.con (.int (1000))), (.var 1)])]) Ec = some (.list [.int (m.fmod ((10 ^ 60) ^ 10)), .int (s.fmod 2147483647), .int (1000 * (i : Nat))], Ec) := by
    have k0 : ∀ x : Int, opd (.con (.int x)) (ev Cn (.con (.int x))) Ec = some (.inl (.int x), Ec) := fun x => rfl
    have pw : ∀ a b : Int, (0 ≤ b ∧ a.natAbs.log2 < 10000 ∧ b ≤ 10000) → qPow (.int a) (.int b) = some (.int (a ^ b.toNat)) := fun a b hab => by
      show (if 0 ≤ b ∧ a.natAbs.log2 < 10000 ∧ b ≤ 10000 then some (PyData.int (a ^ b.toNat)) else none) = _
      rw [if_pos hab]
    have e1 : ev Cn (.prm .pow [(.con (.int (10))), (.con (.int (18)))]) Ec = some (.int (10 ^ 18), Ec) := prm2_eq (k0 10) (k0 18) rfl rfl (pw 10 18 (by decide +kernel))
    have e2 : ev Cn (.prm .sub [(.var 2), (.prm .pow [(.con (.int (10))), (.con (.int (18)))])]) Ec = some (.int (s - 10 ^ 18), Ec) := prm2_eq (opd_val (d := .int s) rfl) (opd_ex (fun _ z => by cases z) e1) rfl rfl rfl
    have e3 : ev Cn (.prm .max2 [(.prm .sub [(.var 2), (.prm .pow [(.con (.int (10))), (.con (.int (18)))])]), (.con (.int (0)))]) Ec = some (.int m, Ec) := prm2_eq (opd_ex (fun _ z => by cases z) e2) (k0 0) rfl rfl rfl
    have e4 : ev Cn (.prm .int [(.prm .max2 [(.prm .sub [(.var 2), (.prm .pow [(.con (.int (10))), (.con (.int (18)))])]), (.con (.int (0)))])]) Ec = some (.int m, Ec) := prm1_eq (opd_ex (fun _ z => by cases z) e3) rfl rfl
    have e5 : ev Cn (.prm .pow [(.con (.int (10))), (.con (.int (60)))]) Ec = some (.int (10 ^ 60), Ec) := prm2_eq (k0 10) (k0 60) rfl rfl (pw 10 60 (by decide +kernel))
    have e6 : ev Cn (.prm .pow [(.prm .pow [(.con (.int (10))), (.con (.int (60)))]), (.con (.int (10)))]) Ec = some (.int ((10 ^ 60) ^ 10), Ec) := prm2_eq (opd_ex (fun _ z => by cases z) e5) (k0 10) rfl rfl (show qPow (.int (10 ^ 60)) (.int 10) = some (.int ((10 ^ 60) ^ 10)) from (pw (10 ^ 60) 10 (by decide +kernel)).trans (by simp))
    have e7 := prm2_eq (p := .mod) (opd_ex (fun _ z => by cases z) e4) (opd_ex (fun _ z => by cases z) e6) rfl rfl q1
    have e8 : ev Cn (.prm .int [(.var 2)]) Ec = some (.int s, Ec) := prm1_eq (opd_val (d := .int s) rfl) rfl rfl
    have e9 := prm2_eq (p := .mod) (opd_ex (fun _ z => by cases z) e8) (k0 2147483647) rfl rfl r1
    have e10 := prm2_eq (p := .mul) (a := .con (.int 1000)) (b := .var 1) (k0 1000) (opd_val (d := .int (i : Nat)) rfl) rfl rfl (mul_ii (a := 1000) (b := (i : Nat)) (by decide) (by omega))
    rw [ev, evL, e7]
    simp only [Option.bind_some]
    rw [evL, e9]
    simp only [Option.bind_some]
    rw [evL1 e10]
    rfl
  refine ⟨[.int (m.fmod ((10 ^ 60) ^ 10)), .int (s.fmod 2147483647), .int (1000 * (i : Nat))], ?_, _, _, _, rfl, r2, r3, by omega, by omega⟩
  have s2 : exS Cn Zn W true (.ret .cut (.lst [(.prm .mod [(.prm .int [(.prm .max2 [(.prm .sub [(.var 2), (.prm .pow [(.con (.int (10))), (.con (.int (18)))])]), (.con (.int (0)))])]), (.prm .pow [(.prm .pow [(.con (.int (10))), (.con (.int (60)))]), (.con (.int (10)))])]), (.prm .mod [(.prm .int [(.var 2)]), (.con (.int (2147483647)))]), (.prm .mul [(.con (.int (1000))), (.var 1)])])) E1 [(true, 2, .int s), (false, 0, iD ns), (false, 1, .int (i : Nat))] = some (.rt (.list [.int (m.fmod ((10 ^ 60) ^ 10)), .int (s.fmod 2147483647), .int (1000 * (i : Nat))]) true E1) := by
    rw [exS]
    simp only [evF, hc, c2, Option.map_some]
  show Option.bind (exB Cn Zn W true b_law_generator E0 fl0) finZ = _
  rw [show exB Cn Zn W true b_law_generator E0 fl0 = _ from (exB_nx s1).trans (exB_rt s2)]
  rfl
end
end K56

namespace K56
open PySem PD
section
variable {W n : Nat}
theorem compL_inv {f : D → En → Option (Option D × En)} {α : Type} {g : α → D} {P : D → Prop} {Inv : Nat → En → Prop} {M : Nat} : ∀ {l : List α} {c : Nat} {e : En}, (∀ c e a, c < M → a ∈ l → Inv c e → ∃ d e', f (g a) e = some (some d, e') ∧ P d ∧ Inv (c + 1) e') → Inv c e → c + l.length ≤ M →
    ∃ ds e', compL f (l.map g) e = some (ds, e') ∧ (∀ d ∈ ds, P d) ∧ ds.length = l.length ∧ Inv (c + l.length) e'
  | [], c, e, _, h, _ => ⟨[], e, rfl, (fun d hd => by cases hd), rfl, h⟩
  | a :: l, c, e, hs, h, hM => by
    rw [List.length_cons] at hM
    obtain ⟨d, e1, h1, h2, h3⟩ := hs c e a (by omega) List.mem_cons_self h
    obtain ⟨ds, e2, h4, h5, h6, h7⟩ := compL_inv (l := l) (fun c e x hc hx => hs c e x hc (List.mem_cons_of_mem _ hx)) h3 (by omega)
    refine ⟨d :: ds, e2, ?_, fun x hx => ?_, by rw [List.length_cons, List.length_cons, h6], by rw [List.length_cons, show c + (l.length + 1) = c + 1 + l.length by omega]; exact h7⟩
    · rw [List.map_cons, compL, h1]
      simp only [Option.bind_some, h4]
      rfl
    · rcases List.mem_cons.mp hx with rfl | hx
      · exact h2
      · exact h5 x hx
theorem ex_list {β : Type} {f : β → D} {Q : β → Prop} : ∀ {ds : List D}, (∀ d ∈ ds, ∃ v, d = f v ∧ Q v) → ∃ l : List β, ds = l.map f ∧ ∀ v ∈ l, Q v
  | [], _ => ⟨[], rfl, fun v hv => by cases hv⟩
  | d :: ds, h => by
    obtain ⟨v, rfl, hv⟩ := h d List.mem_cons_self
    obtain ⟨l, rfl, hl⟩ := ex_list fun x hx => h x (List.mem_cons_of_mem _ hx)
    exact ⟨v :: l, rfl, fun x hx => by
      rcases List.mem_cons.mp hx with rfl | hx
      · exact hv
      · exact hl x hx⟩
theorem draw {gs : List D} {k : Int} {lim : Nat} {e : Ex} {env : En} (g : G lim gs) (hl : lim ≤ 1000000) (hk : Few k) (h0 : slot env 0 = .brw gs) (he : ev (CT T W (n + 2)) e env = some (.int k, env)) :
    ∃ (v : Int) (gs' : List D), ev (CT T W (n + 2)) (.callg 11 0 [e]) env = some (.int v, env.set 0 (.brw gs')) ∧ G (lim + 1) gs' ∧ 0 ≤ v ∧ v < k := by
  obtain ⟨v, gs', h1, h2, h3, h4⟩ := random_of (W := W) (n := n) g hl hk
  refine ⟨v, gs', ?_, h2, h3, h4⟩
  rw [ev, if_pos (by rw [h0]; rfl), evL1 he]
  simp only [Option.bind_some, h0, h1, Option.map_some]
def E8 (gs : List D) (s3 m t s6 s7 : PD.Slot) : En := [.brw gs, .val (.int 8), .val (.int 4), s3, m, t, s6, s7]
def RowOk (many top : Int) (l : List Int) : Prop := (l.length : Int) = many ∧ ∀ x ∈ l, 0 ≤ x ∧ x < top
theorem rng_int {m : Nat} (h : m ≤ 1000) : items .rng1 [.int (m : Nat)] = some ((List.range m).map fun i : Nat => PyData.int (i : Nat)) := rng_nat h
theorem inner_of {gs : List D} {lim many : Nat} {top : Int} {s3 s6 : PD.Slot} (g : G lim gs) (hl : lim ≤ 900000) (hm : many ≤ 4) (ht : Few top) :
    ∃ (l : List Int) (gs' : List D), ev (CT T W (n + 2)) (.comp [7] (.nm 7) .rng1 [(.var 4)] [] (.callg 11 0 [(.var 5)])) (E8 gs s3 (.val (.int (many : Nat))) (.val (.int top)) s6 .no) = some (iD l, E8 gs' s3 (.val (.int (many : Nat))) (.val (.int top)) s6 .no) ∧ RowOk many top l ∧ G (lim + many) gs' := by
  let Cn := CT T W (n + 2)
  let Inv : Nat → En → Prop := fun c e => ∃ gs s7, e = E8 gs s3 (.val (.int (many : Nat))) (.val (.int top)) s6 s7 ∧ G (lim + c) gs
  obtain ⟨ds, e', h1, h2, h3, ⟨gs', s7, rfl, g'⟩⟩ := compL_inv (f := turnC Cn [7] (.nm 7) [] (.callg 11 0 [(.var 5)])) (g := fun i : Nat => PyData.int (i : Nat)) (P := fun d => ∃ v : Int, d = .int v ∧ (0 ≤ v ∧ v < top)) (Inv := Inv) (M := 4) (l := List.range many) (c := 0) (e := E8 gs s3 (.val (.int (many : Nat))) (.val (.int top)) s6 .no) (fun c e a hc ha ⟨gs, s7, he, g⟩ => by
    subst he
    obtain ⟨v, gs', k1, k2, k3, k4⟩ := draw (W := W) (n := n) (k := top) (e := .var 5) (env := E8 gs s3 (.val (.int (many : Nat))) (.val (.int top)) s6 (.val (.int (a : Nat)))) g (by omega) ht rfl rfl
    refine ⟨.int v, E8 gs' s3 (.val (.int (many : Nat))) (.val (.int top)) s6 (.val (.int (a : Nat))), ?_, ⟨v, rfl, k3, k4⟩, gs', _, rfl, k2⟩
    unfold turnC
    rw [show asg (.nm 7) (PyData.int (a : Nat)) (wipeE (E8 gs s3 (.val (.int (many : Nat))) (.val (.int top)) s6 s7) [7]) = some (E8 gs s3 (.val (.int (many : Nat))) (.val (.int top)) s6 (.val (.int (a : Nat)))) from rfl]
    simp only [Option.bind_some, evT, if_true]
    rw [show ev Cn (.callg 11 0 [(.var 5)]) (E8 gs s3 (.val (.int (many : Nat))) (.val (.int top)) s6 (.val (.int (a : Nat)))) = _ from k1]
    rfl) ⟨gs, .no, rfl, g⟩ (by simpa using hm)
  obtain ⟨l, rfl, hl'⟩ := ex_list h2
  rw [List.length_range] at g' h3
  rw [List.length_map] at h3
  refine ⟨l, gs', ?_, ⟨by rw [h3], hl'⟩, by simpa using g'⟩
  rw [ev, show evL (CT T W (n + 2)) [(.var 4)] (E8 gs s3 (.val (.int (many : Nat))) (.val (.int top)) s6 .no) = some ([.int (many : Nat)], E8 gs s3 (.val (.int (many : Nat))) (.val (.int top)) s6 .no) from rfl]
  simp only [Option.bind_some, rng_int (show many ≤ 1000 by omega)]
  rw [show noMut (E8 gs s3 (.val (.int (many : Nat))) (.val (.int top)) s6 .no) [7] = true from rfl, if_pos rfl]
  show Option.map _ (compL (turnC Cn [7] (.nm 7) [] (.callg 11 0 [(.var 5)])) ((List.range many).map fun i : Nat => PyData.int (i : Nat)) (E8 gs s3 (.val (.int (many : Nat))) (.val (.int top)) s6 .no)) = _
  rw [h1]
  rfl
theorem outer_of {gs : List D} {lim many : Nat} {top : Int} {s3 : PD.Slot} (g : G lim gs) (hl : lim ≤ 800000) (hm : many ≤ 4) (ht : Few top) :
    ∃ (rows : List (List Int)) (gs' : List D), ev (CT T W (n + 2)) (.comp [6] (.nm 6) .rng1 [(.prm .add [(.con (.int (1))), (.callg 11 0 [(.var 1)])])] [] (.comp [7] (.nm 7) .rng1 [(.var 4)] [] (.callg 11 0 [(.var 5)]))) (E8 gs s3 (.val (.int (many : Nat))) (.val (.int top)) .no .no) = some (rD rows, E8 gs' s3 (.val (.int (many : Nat))) (.val (.int top)) .no .no) ∧
      1 ≤ rows.length ∧ rows.length ≤ 8 ∧ (∀ r ∈ rows, RowOk many top r) ∧ G (lim + 1 + 32) gs' := by
  let Cn := CT T W (n + 2)
  let E0 := E8 gs s3 (.val (.int (many : Nat))) (.val (.int top)) .no .no
  obtain ⟨v, gs1, k1, k2, k3, k4⟩ := draw (W := W) (n := n) (k := 8) (e := .var 1) (env := E0) g (by omega) (.inr (.inr (.inr rfl))) rfl rfl
  let E1 := E8 gs1 s3 (.val (.int (many : Nat))) (.val (.int top)) .no .no
  have a1 : ev Cn (.prm .add [(.con (.int (1))), (.callg 11 0 [(.var 1)])]) E0 = some (.int (1 + v), E1) := prm2_eq (opd_ex (e1 := E0) (d := .int 1) (fun _ z => by cases z) rfl) (opd_ex (fun _ z => by cases z) k1) rfl rfl rfl
  obtain ⟨k, hk⟩ : ∃ k : Nat, 1 + v = (k : Int) := ⟨(1 + v).toNat, by omega⟩
  rw [hk] at a1
  let Inv : Nat → En → Prop := fun c e => ∃ gs s6, e = E8 gs s3 (.val (.int (many : Nat))) (.val (.int top)) s6 .no ∧ G (lim + 1 + 4 * c) gs
  have gle : ∀ {a b : Nat} {gs : List D}, G a gs → a ≤ b → G b gs := fun {a b gs} ⟨x, y, z, h1, h2, h3, h4, h5⟩ hab => ⟨x, y, z, h1, h2, h3, h4, by omega⟩
  obtain ⟨ds, e', h1, h2, h3, ⟨gs', s6, rfl, g'⟩⟩ := compL_inv (f := turnC Cn [6] (.nm 6) [] (.comp [7] (.nm 7) .rng1 [(.var 4)] [] (.callg 11 0 [(.var 5)]))) (g := fun i : Nat => PyData.int (i : Nat)) (P := fun d => ∃ r : List Int, d = iD r ∧ RowOk many top r) (Inv := Inv) (M := 8) (l := List.range k) (c := 0) (e := E1) (fun c e a hc ha ⟨gs, s6, he, g⟩ => by
    subst he
    obtain ⟨l, gs', j1, j2, j3⟩ := inner_of (W := W) (n := n) (s3 := s3) (s6 := .val (.int (a : Nat))) g (by omega) hm ht
    refine ⟨iD l, E8 gs' s3 (.val (.int (many : Nat))) (.val (.int top)) (.val (.int (a : Nat))) .no, ?_, ⟨l, rfl, j2⟩, gs', _, rfl, gle j3 (by omega)⟩
    unfold turnC
    rw [show asg (.nm 6) (PyData.int (a : Nat)) (wipeE (E8 gs s3 (.val (.int (many : Nat))) (.val (.int top)) s6 .no) [6]) = some (E8 gs s3 (.val (.int (many : Nat))) (.val (.int top)) (.val (.int (a : Nat))) .no) from rfl]
    simp only [Option.bind_some, evT, if_true]
    rw [show ev Cn (.comp [7] (.nm 7) .rng1 [(.var 4)] [] (.callg 11 0 [(.var 5)])) (E8 gs s3 (.val (.int (many : Nat))) (.val (.int top)) (.val (.int (a : Nat))) .no) = _ from j1]
    rfl) ⟨gs1, .no, rfl, gle k2 (by omega)⟩ (by rw [List.length_range]; omega)
  obtain ⟨l, rfl, hl'⟩ := ex_list h2
  rw [List.length_range] at g' h3
  rw [List.length_map] at h3
  refine ⟨l, gs', ?_, by omega, by omega, hl', gle g' (by omega)⟩
  rw [ev, show evL (CT T W (n + 2)) [(.prm .add [(.con (.int (1))), (.callg 11 0 [(.var 1)])])] (E8 gs s3 (.val (.int (many : Nat))) (.val (.int top)) .no .no) = some ([.int (k : Nat)], E1) from evL1 a1]
  simp only [Option.bind_some, rng_int (show k ≤ 1000 by omega)]
  rw [show noMut E1 [6] = true from rfl, if_pos rfl]
  show Option.map _ (compL (turnC Cn [6] (.nm 6) [] (.comp [7] (.nm 7) .rng1 [(.var 4)] [] (.callg 11 0 [(.var 5)]))) ((List.range k).map fun i : Nat => PyData.int (i : Nat)) E1) = _
  rw [h1]
  rfl
end
end K56

namespace K56
open PySem PD
section
variable {W n : Nat}
theorem sIx_last (n : Nat) : HT.sIx n n (some (-1)) = n - 1 := by
  unfold HT.sIx
  simp
  omega
theorem cut_last (row : List Int) : cutD (row.map .int) none (some (-1)) = row.dropLast.map .int := by
  unfold cutD
  rw [HT.sIx_none, List.length_map, sIx_last, List.drop_zero, Nat.sub_zero, ← List.map_take, List.dropLast_eq_take]
theorem ints_of (l : List Int) : intsOf (l.map .int) = some l := by
  induction l with
  | nil => rfl
  | cons x l ih => rw [List.map_cons, intsOf, ih]; rfl
/-- the row with its last one made anew -/
def sumRow (top : Int) (row : List Int) : List Int := row.dropLast ++ [row.dropLast.sum.fmod top]
theorem sumRow_ok {many top : Int} {row : List Int} (h : RowOk many top row) (h1 : 1 ≤ many) (ht : 0 < top) : RowOk many top (sumRow top row) := by
  obtain ⟨h2, h3⟩ := h
  refine ⟨?_, fun x hx => ?_⟩
  · unfold sumRow
    rw [List.length_append, List.length_dropLast, List.length_singleton]; omega
  · unfold sumRow at hx
    rcases List.mem_append.mp hx with hx | hx
    · exact h3 x (List.dropLast_subset _ hx)
    · have : x = row.dropLast.sum.fmod top := by simpa using hx
      rw [this]
      exact ⟨Int.fmod_nonneg_of_pos _ ht, Int.fmod_lt_of_pos _ ht⟩
theorem sums_of {C : Nat → List D → Option (D × List D)} {gs : List D} {many top : Int} {rows : List (List Int)} {m : PD.Slot} (hr : rows.length ≤ 8) (hl : ∀ r ∈ rows, r.length ≤ 5) (ht : 0 < top) :
    ev C (.comp [6] (.nm 6) .seq [(.var 3)] [] (.prm .add [(.prm (.sl false true) [(.var 6), (.prm .neg [(.con (.int (1)))])]), (.lst [(.prm .mod [(.prm .int [(.prm .sum [(.prm (.sl false true) [(.var 6), (.prm .neg [(.con (.int (1)))])])])]), (.var 5)])])])) (E8 gs (.val (rD rows)) m (.val (.int top)) .no .no) = some (rD (rows.map (sumRow top)), E8 gs (.val (rD rows)) m (.val (.int top)) .no .no) := by
  have e := ev_compM (C := C) (own := [6]) (tg := .nm 6) (ik := .seq) (its := [(.var 3)]) (ifs := []) (elt := .prm .add [(.prm (.sl false true) [(.var 6), (.prm .neg [(.con (.int (1)))])]), (.lst [(.prm .mod [(.prm .int [(.prm .sum [(.prm (.sl false true) [(.var 6), (.prm .neg [(.con (.int (1)))])])])]), (.var 5)])])]) (env := E8 gs (.val (rD rows)) m (.val (.int top)) .no .no) (env1 := E8 gs (.val (rD rows)) m (.val (.int top)) .no .no)
    (l := rows) (f := iD) (o := fun r => iD (sumRow top r)) (ds := [rD rows]) rfl (by simp [items, jSeq, rD, sz]; omega) rfl fun r hr' => by
      let E := E8 gs (.val (rD rows)) m (.val (.int top)) (.val (iD r)) .no
      refine ⟨E, ?_, rfl⟩
      unfold turnC
      rw [show asg (.nm 6) (iD r) (wipeE (E8 gs (.val (rD rows)) m (.val (.int top)) .no .no) [6]) = some E from rfl]
      simp only [Option.bind_some, evT, if_true]
      have a1 : ev C (.prm (.sl false true) [(.var 6), (.prm .neg [(.con (.int (1)))])]) E = some (iD r.dropLast, E) := prm2_eq (opd_val (d := iD r) rfl) (opd_ex (e1 := E) (d := .int (-1)) (fun _ z => by cases z) rfl) rfl rfl (by
        show some (PyData.list (cutD (r.map .int) none (some (-1)))) = _
        rw [cut_last]; rfl)
      have a2 : ev C (.prm .sum [(.prm (.sl false true) [(.var 6), (.prm .neg [(.con (.int (1)))])])]) E = some (.int r.dropLast.sum, E) := prm1_eq (opd_ex (fun _ z => by cases z) a1) rfl (by
        show Option.map _ (intsOf (r.dropLast.map .int)) = _
        rw [ints_of]; rfl)
      have a3 : ev C (.prm .int [(.prm .sum [(.prm (.sl false true) [(.var 6), (.prm .neg [(.con (.int (1)))])])])]) E = some (.int r.dropLast.sum, E) := prm1_eq (opd_ex (fun _ z => by cases z) a2) rfl rfl
      have a4 := prm2_eq (p := .mod) (b := .var 5) (opd_ex (fun _ z => by cases z) a3) (opd_val (d := .int top) rfl) rfl rfl (mod_ii (a := r.dropLast.sum) ht).1
      have a5 : ev C (.lst [(.prm .mod [(.prm .int [(.prm .sum [(.prm (.sl false true) [(.var 6), (.prm .neg [(.con (.int (1)))])])])]), (.var 5)])]) E = some (iD [r.dropLast.sum.fmod top], E) := by rw [ev, evL1 a4]; rfl
      have a6 := prm2_eq (p := .add) (d := iD (sumRow top r)) (opd_ex (fun _ z => by cases z) a1) (opd_ex (fun _ z => by cases z) a5) rfl rfl (by
        have := hl r hr'
        simp [pr2, qAdd, iD, sz, sumRow]; omega)
      rw [a6]
      rfl
  have hm : rows.map (fun r => iD (sumRow top r)) = (rows.map (sumRow top)).map iD := by rw [List.map_map]; rfl
  rw [e, hm]
  rfl
theorem letter_rows_of {gs : List D} (g : G 7000 gs) : ∃ (rows : List (List Int)) (m : Nat) (gs' : List D), CT T W (n + 3) 16 [.list gs, .int 8, .int 4] = some (rD rows, gs') ∧ Ok rows m ∧ rows.length ≤ 8 ∧ m ≤ 4 ∧ G 8000 gs' := by
  rw [ct_mut (T := T) (i := 16) (b := b_law_letter_rows) (dr := [.int 8, .int 4]) rfl rfl]
  let Cn := CT T W (n + 2)
  let Zn := ZT T W (n + 2)
  let E0 := E8 gs .no .no .no .no .no
  obtain ⟨v1, gs1, k1, g1, v10, v14⟩ := draw (W := W) (n := n) (k := 4) (e := .var 2) (env := E0) g (by omega) (.inr (.inr (.inl rfl))) rfl rfl
  let E1 := E8 gs1 .no .no .no .no .no
  obtain ⟨v2, gs2, k2, g2, v20, v22⟩ := draw (W := W) (n := n) (k := 2) (e := .con (.int 2)) (env := E1) g1 (by omega) (.inl rfl) rfl rfl
  let E2 := E8 gs2 .no .no .no .no .no
  obtain ⟨many, hmany⟩ : ∃ k : Nat, 1 + v1 = (k : Int) := ⟨(1 + v1).toNat, by omega⟩
  let top : Int := 2 + v2
  have ht : Few top := by
    have : v2 = 0 ∨ v2 = 1 := by omega
    rcases this with h | h
    · exact .inl (by show 2 + v2 = 2; omega)
    · exact .inr (.inl (by show 2 + v2 = 3; omega))
  have ht0 : 0 < top := by show 0 < 2 + v2; omega
  have ht3 : top ≤ 3 := by show 2 + v2 ≤ 3; omega
  have t1 : ev Cn (.prm .add [(.con (.int (1))), (.callg 11 0 [(.var 2)])]) E0 = some (.int (many : Nat), E1) := by
    rw [← hmany]
    exact prm2_eq (opd_ex (e1 := E0) (d := .int 1) (fun _ z => by cases z) rfl) (opd_ex (fun _ z => by cases z) k1) rfl rfl rfl
  have t2 : ev Cn (.prm .add [(.con (.int (2))), (.callg 11 0 [(.con (.int (2)))])]) E1 = some (.int top, E2) := prm2_eq (opd_ex (e1 := E1) (d := .int 2) (fun _ z => by cases z) rfl) (opd_ex (fun _ z => by cases z) k2) rfl rfl rfl
  have t3 : ev Cn (.tup [(.prm .add [(.con (.int (1))), (.callg 11 0 [(.var 2)])]), (.prm .add [(.con (.int (2))), (.callg 11 0 [(.con (.int (2)))])])]) E0 = some (.tuple [.int (many : Nat), .int top], E2) := by
    rw [ev, evL, t1]
    simp only [Option.bind_some, evL1 t2, Option.map_some]
  let M : PD.Slot := .val (.int (many : Nat))
  let Tp : PD.Slot := .val (.int top)
  let E3 := E8 gs2 .no M Tp .no .no
  have s1 : exS Cn Zn W false (.asg .plain (.tp [(.nm 4), (.nm 5)]) (.tup [(.prm .add [(.con (.int (1))), (.callg 11 0 [(.var 2)])]), (.prm .add [(.con (.int (2))), (.callg 11 0 [(.con (.int (2)))])])])) E0 [] = some (.nx E3 []) := by
    rw [exS]
    simp only [evF, t3, Option.map_some, Option.bind_some]
    rfl
  obtain ⟨rows, gs3, o1, o2, o3, o4, g3⟩ := outer_of (W := W) (n := n) (s3 := .no) (many := many) (top := top) g2 (by omega) (by omega) ht
  let E4 := E8 gs3 (.val (rD rows)) M Tp .no .no
  have s2 := asg_eq (C := Cn) (Z := Zn) (W := W) (fl := []) (i := 3) (env1 := E8 gs3 .no M Tp .no .no) o1 rfl (by simp [E8])
  obtain ⟨v3, gs4, k3, g4, v30, v33⟩ := draw (W := W) (n := n) (k := 3) (e := .con (.int 3)) (env := E4) g3 (by omega) (.inr (.inl rfl)) rfl rfl
  let E5 := E8 gs4 (.val (rD rows)) M Tp .no .no
  have c1 : ev Cn (.prm .eq [(.callg 11 0 [(.con (.int (3)))]), (.con (.int (0)))]) E4 = some (.bool (decide (v3 = 0)), E5) := prm2_eq (opd_ex (fun _ z => by cases z) k3) (opd_ex (e1 := E5) (d := .int 0) (fun _ z => by cases z) rfl) rfl rfl (eq_ii v3 0)
  have c2 : ev Cn (.prm .gt [(.var 4), (.con (.int (1)))]) E5 = some (.bool (decide ((many : Int) > 1)), E5) := prm2_eq (opd_val (d := .int (many : Nat)) rfl) (opd_ex (e1 := E5) (d := .int 1) (fun _ z => by cases z) rfl) rfl rfl (gt_ii _ 1)
  have c3 : ev Cn (.and (.prm .eq [(.callg 11 0 [(.con (.int (3)))]), (.con (.int (0)))]) (.prm .gt [(.var 4), (.con (.int (1)))])) E4 = some (.bool (decide (v3 = 0) && decide ((many : Int) > 1)), E5) := by
    rw [ev, c1]
    simp only [Option.bind_some, isTrueD]
    by_cases h : v3 = 0
    · rw [decide_eq_true h, if_pos rfl, c2]; rfl
    · rw [decide_eq_false h]; rfl
  have hlen : ∀ r ∈ rows, r.length ≤ 5 := fun r hr => by have := (o4 r hr).1; omega
  -- the rows that are told
  have tell : ∀ (rs : List (List Int)), rs.length = rows.length → (∀ r ∈ rs, RowOk many top r) → Ok rs many := fun rs hl hr =>
    ⟨by omega, by omega, by omega, by omega, fun r h => by have := (hr r h).1; omega, fun r h x hx => by have := (hr r h).2 x hx; omega⟩
  have gl : ∀ {a : Nat} {gs : List D}, G a gs → a ≤ 8000 → G 8000 gs := fun {a gs} ⟨x, y, z, h1, h2, h3, h4, h5⟩ hab => ⟨x, y, z, h1, h2, h3, h4, by omega⟩
  have fin : ∀ {rs : List (List Int)} {e : En}, exB Cn Zn W false b_law_letter_rows E0 [] = some (.rt (rD rs) false e) → slot e 0 = .brw gs4 → (exB Cn Zn W false b_law_letter_rows E0 []).bind finM = some (rD rs, gs4) := fun {rs e} h h0 => by
    rw [h]
    show Option.map _ (match slot e 0 with
      | .brw gs => some gs
      | _ => none) = _
    rw [h0]; rfl
  by_cases hb : (decide (v3 = 0) && decide ((many : Int) > 1)) = true
  · refine ⟨rows.map (sumRow top), many, gs4, ?_, tell _ (by rw [List.length_map]) (fun r hr => ?_), by rw [List.length_map]; omega, by omega, gl g4 (by omega)⟩
    · have q := sums_of (C := Cn) (gs := gs4) (rows := rows) (m := M) (many := 0) o3 hlen ht0
      have s4 := asg_eq (C := Cn) (Z := Zn) (W := W) (fl := []) (i := 3) q rfl (by simp [E8])
      refine fin (e := E8 gs4 (.val (rD (rows.map (sumRow top)))) M Tp .no .no) ?_ rfl
      refine (exB_nx s1).trans ((exB_nx (e := E4) (l := []) s2).trans ((exB_nx (e := E8 gs4 (.val (rD (rows.map (sumRow top)))) M Tp .no .no) (l := []) ((ite_eq c3).trans ?_)).trans (exB_rt (ret_eq rfl))))
      rw [hb, if_pos rfl]
      exact (exB_nx s4).trans rfl
    · obtain ⟨r0, hr0, rfl⟩ := List.mem_map.mp hr
      exact sumRow_ok (o4 r0 hr0) (by omega) ht0
  · have hb : (decide (v3 = 0) && decide ((many : Int) > 1)) = false := by simpa using hb
    refine ⟨rows, many, gs4, ?_, tell _ rfl o4, o3, by omega, gl g4 (by omega)⟩
    refine fin (e := E5) ?_ rfl
    exact (exB_nx s1).trans ((exB_nx (e := E4) (l := []) s2).trans ((exB_nx (e := E5) (l := []) ((ite_eq c3).trans (by rw [hb]; rfl))).trans (exB_rt (ret_eq rfl))))
end
end K56

namespace K56
open PySem PD
section
variable {W n : Nat}
/-! ### two rows' lists looked at by themselves -/
theorem sorted_is {l : List D} (h : l.Pairwise fun a b => PySem.W.dataLe false id a b = true) : sortD l = l := List.mergeSort_of_pairwise h
theorem res3 : resD [[0, 0], [0, 1], [1, 1]] 2 = .tuple [.str "lot", iD [0]] := by
  have l2 : lotsI 2 = [[], [0], [1], [0, 1]] := by
    unfold lotsI
    rw [sorted_is (by decide +kernel)]
    rfl
  have e0 : evenI [[0, 0], [0, 1], [1, 1]] [] = true := by
    unfold evenI cntI shI
    rw [sorted_is (by decide +kernel)]
    decide +kernel
  have e1 : evenI [[0, 0], [0, 1], [1, 1]] [0] = false := by
    unfold evenI cntI shI
    rw [sorted_is (by decide +kernel)]
    decide +kernel
  unfold resD
  rw [l2, List.find?_cons_of_neg (by rw [e0]; decide), List.find?_cons_of_pos (by rw [e1]; decide)]
theorem res1 : resD (List.replicate 12 [0]) 1 = .tuple [.str "even"] := by
  have l1 : lotsI 1 = [[], [0]] := by
    unfold lotsI
    rw [sorted_is (by decide +kernel)]
    rfl
  have e0 : evenI (List.replicate 12 [0]) [] = true := by
    unfold evenI cntI shI
    rw [sorted_is (by decide +kernel)]
    decide +kernel
  have e1 : evenI (List.replicate 12 [0]) [0] = true := by
    unfold evenI cntI shI
    rw [sorted_is (by decide +kernel)]
    decide +kernel
  unfold resD
  rw [l1, List.find?_cons_of_neg (by rw [e0]; decide), List.find?_cons_of_neg (by rw [e1]; decide)]
  rfl
end
end K56

namespace K56
open PySem PD
section
variable {W n : Nat}
def bits : List (List Int) := [[0, 0], [0, 1], [1, 0], [1, 1]]
def sum4 : List (List Int) := [[0, 0, 0], [0, 1, 1], [1, 0, 1], [1, 1, 0]]
def sumsI (i : Nat) : List (List Int) := sum4.take (if i % 2 = 0 then 4 else 3)
theorem sums_ok (i : Nat) : Ok (sumsI i) 3 := by
  unfold sumsI
  by_cases h : i % 2 = 0
  · rw [if_pos h]; exact ⟨by decide, by decide, by decide, by decide, by decide, by decide⟩
  · rw [if_neg h]; exact ⟨by decide, by decide, by decide, by decide, by decide, by decide⟩
def L8 (s : D) (i g sums some rows bits row : PD.Slot) : En := [.val s, i, g, sums, some, rows, bits, row]
abbrev exBody : List Sm := [.ite (.not (.call 21 [] [(.var 4)])) [.ret .plain (.con (.bool false))] []]
abbrev exSums : Ex := .prm (.sl false true) [(.comp [7] (.nm 7) .seq [(.var 6)] [] (.prm .add [(.var 7), (.lst [(.prm .mod [(.prm .int [(.prm .sum [(.var 7)])]), (.con (.int (2)))])])])), (.ite (.prm .eq [(.prm .mod [(.var 1), (.con (.int (2)))]), (.con (.int (0)))]) (.con (.int (4))) (.con (.int (3))))]
abbrev exSome : Ex := .lst [(.var 5), (.var 3), (.prm .mul [(.prm (.sl false true) [(.var 5), (.con (.int (1)))]), (.con (.int (2)))]), (.prm .add [(.var 5), (.prm (.sl false true) [(.var 5), (.con (.int (1)))])])]
theorem cut_n (l : List (List Int)) (k : Nat) : cutD (l.map iD) none (some (k : Int)) = (l.take k).map iD := by
  unfold cutD
  rw [HT.sIx_none, HT.sIx_nat, List.length_map, List.drop_zero, Nat.sub_zero, ← List.map_take]
  congr 1
  rw [Nat.min_def]
  split
  · rfl
  · rw [List.take_length, List.take_of_length_le (by omega)]
theorem ev_sums {C : Nat → List D → Option (D × List D)} {s : D} {i : Nat} {g s3 s4 s5 : PD.Slot} (hi : i < 8) : ev C exSums (L8 s (.val (.int (i : Nat))) g s3 s4 s5 (.val (rD bits)) .no) = some (rD (sumsI i), L8 s (.val (.int (i : Nat))) g s3 s4 s5 (.val (rD bits)) .no) := by
  let E := L8 s (.val (.int (i : Nat))) g s3 s4 s5 (.val (rD bits)) .no
  have c1 : ev C (.comp [7] (.nm 7) .seq [(.var 6)] [] (.prm .add [(.var 7), (.lst [(.prm .mod [(.prm .int [(.prm .sum [(.var 7)])]), (.con (.int (2)))])])])) E = some (rD sum4, E) := by
    have e := ev_compM (C := C) (own := [7]) (tg := .nm 7) (ik := .seq) (its := [(.var 6)]) (ifs := []) (elt := .prm .add [(.var 7), (.lst [(.prm .mod [(.prm .int [(.prm .sum [(.var 7)])]), (.con (.int (2)))])])]) (env := E) (env1 := E) (l := bits) (f := iD) (o := fun r => iD (r ++ [r.sum.fmod 2])) (ds := [rD bits])
      rfl rfl rfl fun r hr => by
        let E' := L8 s (.val (.int (i : Nat))) g s3 s4 s5 (.val (rD bits)) (.val (iD r))
        refine ⟨E', ?_, rfl⟩
        unfold turnC
        rw [show asg (.nm 7) (iD r) (wipeE E [7]) = some E' from rfl]
        simp only [Option.bind_some, evT, if_true]
        have a1 : ev C (.prm .sum [(.var 7)]) E' = some (.int r.sum, E') := prm1_eq (opd_val (d := iD r) rfl) rfl (by
          show Option.map _ (intsOf (r.map .int)) = _
          rw [ints_of]; rfl)
        have a2 : ev C (.prm .int [(.prm .sum [(.var 7)])]) E' = some (.int r.sum, E') := prm1_eq (opd_ex (fun _ z => by cases z) a1) rfl rfl
        have a3 := prm2_eq (p := .mod) (b := .con (.int 2)) (opd_ex (fun _ z => by cases z) a2) (opd_ex (e1 := E') (d := .int 2) (fun _ z => by cases z) rfl) rfl rfl (mod_ii (a := r.sum) (b := 2) (by decide)).1
        have a4 : ev C (.lst [(.prm .mod [(.prm .int [(.prm .sum [(.var 7)])]), (.con (.int (2)))])]) E' = some (iD [r.sum.fmod 2], E') := by rw [ev, evL1 a3]; rfl
        have hl : r.length = 2 := by
          have : ∀ r ∈ bits, r.length = 2 := by decide
          exact this r hr
        have a5 := prm2_eq (p := .add) (a := .var 7) (d := iD (r ++ [r.sum.fmod 2])) (opd_val (d := iD r) rfl) (opd_ex (fun _ z => by cases z) a4) rfl rfl (by simp [pr2, qAdd, iD, sz, hl])
        rw [a5]
        rfl
    rw [e]
    rfl
  have c2 : ev C (.ite (.prm .eq [(.prm .mod [(.var 1), (.con (.int (2)))]), (.con (.int (0)))]) (.con (.int (4))) (.con (.int (3)))) E = some (.int ((if i % 2 = 0 then 4 else 3 : Nat) : Nat), E) := by
    have a1 := prm2_eq (C := C) (env := E) (p := .mod) (a := .var 1) (b := .con (.int 2)) (opd_val (d := .int (i : Nat)) rfl) (opd_ex (e1 := E) (d := .int 2) (fun _ z => by cases z) rfl) rfl rfl (mod_ii (a := (i : Nat)) (b := 2) (by decide)).1
    have a2 := prm2_eq (p := .eq) (b := .con (.int 0)) (opd_ex (fun _ z => by cases z) a1) (opd_ex (e1 := E) (d := .int 0) (fun _ z => by cases z) rfl) rfl rfl (eq_ii _ 0)
    rw [ev, a2]
    simp only [Option.bind_some, isTrueD]
    have hf : Int.fmod (i : Int) 2 = ((i % 2 : Nat) : Int) := by rw [Int.fmod_eq_emod_of_nonneg _ (by decide)]; omega
    by_cases h : i % 2 = 0
    · rw [if_pos h, hf, h]; rfl
    · rw [if_neg h, hf, decide_eq_false (by omega)]; rfl
  refine prm2_eq (opd_ex (fun _ z => by cases z) c1) (opd_ex (fun _ z => by cases z) c2) rfl rfl ?_
  show some (PyData.list (cutD (sum4.map iD) none (some ((if i % 2 = 0 then 4 else 3 : Nat) : Nat)))) = _
  rw [cut_n]
  rfl
theorem mul2 (l : List (List Int)) (h : l.length ≤ 9) : qMul (rD l) (.int 2) = some (rD (l ++ l)) := by
  show (if 0 ≤ (2 : Int) ∧ (2 : Int) ≤ 1000000 ∧ (l.map iD).length * (2 : Int).toNat ≤ 1000000 then some (PyData.list (List.replicate (2 : Int).toNat (l.map iD)).flatten) else none) = _
  rw [if_pos ⟨by decide, by decide, by rw [List.length_map]; show l.length * 2 ≤ _; omega⟩]
  show some (PyData.list (l.map iD ++ (l.map iD ++ []))) = some (PyData.list ((l ++ l).map iD))
  rw [List.append_nil, List.map_append]
theorem take1_ok {rows : List (List Int)} {m : Nat} (o : Ok rows m) : Ok (rows.take 1 ++ rows.take 1) m ∧ (rows.length ≤ 8 → Ok (rows ++ rows.take 1) m) := by
  have sub : ∀ r ∈ rows.take 1, r ∈ rows := fun r hr => List.mem_of_mem_take hr
  have hl : (rows.take 1).length = 1 := by rw [List.length_take]; have := o.one; omega
  refine ⟨⟨by simp only [List.length_append]; omega, by simp only [List.length_append]; omega, o.m1, o.m5, fun r hr => ?_, fun r hr => ?_⟩, fun h8 => ⟨by simp only [List.length_append]; omega, by simp only [List.length_append]; omega, o.m1, o.m5, fun r hr => ?_, fun r hr => ?_⟩⟩
  · rcases List.mem_append.mp hr with h | h
    · exact o.len r (sub r h)
    · exact o.len r (sub r h)
  · rcases List.mem_append.mp hr with h | h
    · exact o.dig r (sub r h)
    · exact o.dig r (sub r h)
  · rcases List.mem_append.mp hr with h | h
    · exact o.len r h
    · exact o.len r (sub r h)
  · rcases List.mem_append.mp hr with h | h
    · exact o.dig r h
    · exact o.dig r (sub r h)
theorem ev_some {C : Nat → List D → Option (D × List D)} {s : D} {rows sums : List (List Int)} {i g s4 s6 : PD.Slot} (hr : rows.length ≤ 8) :
    ev C exSome (L8 s i g (.val (rD sums)) s4 (.val (rD rows)) s6 .no) = some (.list ([rows, sums, rows.take 1 ++ rows.take 1, rows ++ rows.take 1].map rD), L8 s i g (.val (rD sums)) s4 (.val (rD rows)) s6 .no) := by
  let E := L8 s i g (.val (rD sums)) s4 (.val (rD rows)) s6 .no
  have a1 : ev C (.prm (.sl false true) [(.var 5), (.con (.int (1)))]) E = some (rD (rows.take 1), E) := prm2_eq (opd_val (d := rD rows) rfl) (opd_ex (e1 := E) (d := .int 1) (fun _ z => by cases z) rfl) rfl rfl (by
    show some (PyData.list (cutD (rows.map iD) none (some ((1 : Nat) : Int)))) = _
    rw [cut_n]; rfl)
  have hl : (rows.take 1).length ≤ 1 := by rw [List.length_take]; omega
  have a2 := prm2_eq (p := .mul) (b := .con (.int 2)) (opd_ex (fun _ z => by cases z) a1) (opd_ex (e1 := E) (d := .int 2) (fun _ z => by cases z) rfl) rfl rfl (mul2 (rows.take 1) (by omega))
  have a3 := prm2_eq (p := .add) (a := .var 5) (opd_val (d := rD rows) rfl) (opd_ex (fun _ z => by cases z) a1) rfl rfl (add_rows rows (rows.take 1) (by omega))
  rw [ev, evL, show ev C (.var 5) E = some (rD rows, E) from rfl]
  simp only [Option.bind_some]
  rw [evL, show ev C (.var 3) E = some (rD sums, E) from rfl]
  simp only [Option.bind_some]
  rw [evL, a2]
  simp only [Option.bind_some, evL1 a3]
  rfl
theorem inner_loop {s : D} {i g s3 s5 s6 : PD.Slot} {some' : List (List (List Int))} (ho : ∀ r ∈ some', ∃ m, Ok r m) {s4 : PD.Slot} (h4 : isMut s4 = false) :
    ∃ s4', isMut s4' = false ∧ forL (fun x e l => (asg (.nm 4) x e).bind fun e1 => exB (CT T W (n + 6)) (ZT T W (n + 6)) W false exBody e1 (updF false (false && decide (IK.seq = IK.seq)) (.nm 4) x l)) (some'.map rD) (L8 s i g s3 s4 s5 s6 .no) [] = some (.nx (L8 s i g s3 s4' s5 s6 .no) []) := by
  obtain ⟨e', fl', h1, ⟨s4', rfl, h5⟩, rfl⟩ := forL_fold (F := fun x e l => (asg (.nm 4) x e).bind fun e1 => exB (CT T W (n + 6)) (ZT T W (n + 6)) W false exBody e1 (updF false (false && decide (IK.seq = IK.seq)) (.nm 4) x l)) (f := rD)
    (st := fun (_ : Unit) e fl => (∃ s4, e = L8 s i g s3 s4 s5 s6 .no ∧ isMut s4 = false) ∧ fl = []) (step := fun u _ => u) (l := some') (b := ()) (e := L8 s i g s3 s4 s5 s6 .no) (fl := []) (fun _ e fl a ha ⟨⟨s4, he, h4⟩, hf⟩ => by
      subst he hf
      obtain ⟨m, o⟩ := ho a ha
      have hb : isBrw s4 = false := by cases s4 <;> first | rfl | cases h4
      let E := L8 s i g s3 (.val (rD a)) s5 s6 .no
      refine ⟨E, [], ?_, ⟨_, rfl, rfl⟩, rfl⟩
      have c : ev (CT T W (n + 6)) (.not (.call 21 [] [(.var 4)])) E = some (.bool false, E) := by
        rw [ev, ev, evL1 (show ev (CT T W (n + 6)) (.var 4) E = some (rD a, E) from rfl)]
        simp only [Option.bind_some, permL, right_of (W := W) (n := n) o, Option.map_some, isTrueD, Bool.not_true]
      rw [show asg (.nm 4) (rD a) (L8 s i g s3 s4 s5 s6 .no) = some E by simp [asg, slot, L8, hb, E]]
      exact (exB_nx (e := E) (l := []) ((ite_eq c).trans rfl)).trans rfl) ⟨⟨s4, rfl, h4⟩, rfl⟩
  exact ⟨s4', h5, h1⟩
theorem law_of (ns : List Int) (h : ns.length ≤ 63) : CT T W (n + 7) 22 [.list (ns.map .int)] = some (.bool true, []) := by
  show CT T W (n + 7) 22 [iD ns] = _
  rw [ct_plain (T := T) (i := 22) (b := blaw) rfl rfl]
  let Cn := CT T W (n + 6)
  let Zn := ZT T W (n + 6)
  let st : Unit → En → Fl → Prop := fun _ e fl => (∃ s1 s2 s3 s4 s5 s6, e = L8 (iD ns) s1 s2 s3 s4 s5 s6 .no ∧ isMut s1 = false ∧ isBrw s2 = false ∧ isMut s3 = false ∧ isMut s4 = false ∧ isMut s5 = false ∧ isMut s6 = false) ∧ fl = []
  let body : List Sm := [.ownc 2 (.call 13 [] [(.var 0), (.var 1)]), .par [5, 6] [(.plain, (.callg 16 2 [(.con (.int (8))), (.con (.int (4)))])), (.plain, (.lst [(.lst [(.con (.int (0))), (.con (.int (0)))]), (.lst [(.con (.int (0))), (.con (.int (1)))]), (.lst [(.con (.int (1))), (.con (.int (0)))]), (.lst [(.con (.int (1))), (.con (.int (1)))])]))], .asg .plain (.nm 3) exSums, .for .plain (.nm 4) .seq [exSome] exBody]
  let Fn : D → En → Fl → Option Fw := fun x e l => (asg (.nm 1) x e).bind fun e1 => exB Cn Zn W false body e1 (updF false (false && decide (IK.rng1 = IK.seq)) (.nm 1) x l)
  have nb : ∀ {s : PD.Slot}, isMut s = false → isBrw s = false := fun {s} h => by cases s <;> first | rfl | cases h
  obtain ⟨e', fl', g1, ⟨⟨s1, s2, s3, s4, s5, s6, rfl, h1, h2, h3, h4, h5, h6⟩, rfl⟩⟩ := forL_fold (F := Fn) (f := fun i : Nat => PyData.int (i : Nat)) (st := st) (step := fun u _ => u) (l := List.range 8) (b := ()) (e := L8 (iD ns) .no .no .no .no .no .no .no) (fl := []) (fun _ e fl a ha ⟨⟨s1, s2, s3, s4, s5, s6, he, h1, h2, h3, h4, h5, h6⟩, hf⟩ => by
    subst he hf
    have ha8 : a < 8 := by simpa using ha
    obtain ⟨gs, hg, gg⟩ := gen_of (W := W) (n := n + 4) ns h a ha8
    obtain ⟨rows, m, gs', hr, o, r8, m4, _⟩ := letter_rows_of (W := W) (n := n + 3) gg
    obtain ⟨i0, i1, i2, rfl, _⟩ := gg
    let I : PD.Slot := .val (.int (a : Nat))
    let A1 := L8 (iD ns) I s2 s3 s4 s5 s6 .no
    let A2 := L8 (iD ns) I (.own [.int i0, .int i1, .int i2]) s3 s4 s5 s6 .no
    let A3 := L8 (iD ns) I (.own gs') s3 s4 (.val (rD rows)) (.val (rD bits)) .no
    let A4 := L8 (iD ns) I (.own gs') (.val (rD (sumsI a))) s4 (.val (rD rows)) (.val (rD bits)) .no
    have hc : Cn 13 [iD ns, .int (a : Nat)] = some (.list [.int i0, .int i1, .int i2], []) := by
      show getC (runT T W (n + 6) 13 [iD ns, .int (a : Nat)]) = _
      rw [hg]; rfl
    have hz : Zn 13 [iD ns, .int (a : Nat)] = true := by
      show getZ (runT T W (n + 6) 13 [iD ns, .int (a : Nat)]) = _
      rw [hg]; rfl
    have b1 : exS Cn Zn W false (.ownc 2 (.call 13 [] [(.var 0), (.var 1)])) A1 [] = some (.nx A2 []) := by
      rw [exS, show evL Cn [(.var 0), (.var 1)] A1 = some ([iD ns, .int (a : Nat)], A1) from rfl]
      simp only [Option.bind_some, hc, hz, Bool.true_or, Bool.true_and]
      rw [show slot A1 2 = s2 from rfl, h2]
      rfl
    have b2 : exS Cn Zn W false (.par [5, 6] [(.plain, (.callg 16 2 [(.con (.int (8))), (.con (.int (4)))])), (.plain, (.lst [(.lst [(.con (.int (0))), (.con (.int (0)))]), (.lst [(.con (.int (0))), (.con (.int (1)))]), (.lst [(.con (.int (1))), (.con (.int (0)))]), (.lst [(.con (.int (1))), (.con (.int (1)))])]))]) A2 [] = some (.nx A3 []) := by
      let A2' := L8 (iD ns) I (.own gs') s3 s4 s5 s6 .no
      have hr' : Cn 16 [.list [.int i0, .int i1, .int i2], .int 8, .int 4] = some (rD rows, gs') := hr
      have q1 : ev Cn (.callg 16 2 [(.con (.int (8))), (.con (.int (4)))]) A2 = some (rD rows, A2') := by
        rw [ev, show isMut (slot A2 2) = true from rfl, if_pos rfl, show evL Cn [(.con (.int (8))), (.con (.int (4)))] A2 = some ([.int 8, .int 4], A2) from rfl]
        simp only [Option.bind_some]
        rw [show slot A2 2 = .own [.int i0, .int i1, .int i2] from rfl]
        simp only [hr', Option.map_some]
        rfl
      have q2 : evF Cn Zn false .plain (.callg 16 2 [(.con (.int (8))), (.con (.int (4)))]) A2 [] = some (rD rows, false, A2') := by
        simp only [evF, q1, Option.map_some]
        rfl
      rw [exS, evFL, q2]
      simp only [Option.bind_some]
      show Option.bind (some ([(rD rows, false), (rD bits, false)], A2')) _ = _
      simp only [Option.bind_some, setVals]
      rw [show slot A2' 5 = s5 from rfl, nb h5]
      show Option.map _ (if isBrw s6 = true then none else some A3) = _
      rw [nb h6]
      rfl
    have b3 := asg_eq (C := Cn) (Z := Zn) (W := W) (fl := []) (i := 3) (ev_sums (C := Cn) (s := iD ns) (g := .own gs') (s3 := s3) (s4 := s4) (s5 := .val (rD rows)) ha8) (nb h3) (by simp [L8])
    have hs := ev_some (C := Cn) (s := iD ns) (i := I) (g := .own gs') (sums := sumsI a) (s4 := s4) (s6 := .val (rD bits)) r8
    obtain ⟨s4', h4', b4⟩ := inner_loop (W := W) (n := n) (s := iD ns) (i := I) (g := .own gs') (s3 := .val (rD (sumsI a))) (s5 := .val (rD rows)) (s6 := .val (rD bits)) (some' := [rows, sumsI a, rows.take 1 ++ rows.take 1, rows ++ rows.take 1]) (fun r hr => by
      simp only [List.mem_cons, List.not_mem_nil, or_false] at hr
      rcases hr with rfl | rfl | rfl | rfl
      · exact ⟨m, o⟩
      · exact ⟨3, sums_ok a⟩
      · exact ⟨m, (take1_ok o).1⟩
      · exact ⟨m, (take1_ok o).2 r8⟩) h4
    refine ⟨L8 (iD ns) I (.own gs') (.val (rD (sumsI a))) s4' (.val (rD rows)) (.val (rD bits)) .no, [], ?_, ⟨_, _, _, _, _, _, rfl, rfl, rfl, rfl, h4', rfl, rfl⟩, rfl⟩
    show Option.bind (asg (.nm 1) (.int (a : Nat)) (L8 (iD ns) s1 s2 s3 s4 s5 s6 .no)) _ = _
    rw [show asg (.nm 1) (.int (a : Nat)) (L8 (iD ns) s1 s2 s3 s4 s5 s6 .no) = some A1 by simp [asg, slot, L8, nb h1, A1, I]]
    exact (exB_nx b1).trans ((exB_nx b2).trans ((exB_nx (e := A4) (l := []) b3).trans ((exB_nx (for_eq (b := false) (by rw [evI, evL1 hs]; rfl) rfl b4)).trans rfl)))) ⟨⟨.no, .no, .no, .no, .no, .no, rfl, rfl, rfl, rfl, rfl, rfl, rfl⟩, rfl⟩
  let E := L8 (iD ns) s1 s2 s3 s4 s5 s6 .no
  have o3 : Ok [[0, 0], [0, 1], [1, 1]] 2 := ⟨by decide, by decide, by decide, by decide, by decide, by decide⟩
  have o1 : Ok (List.replicate 12 [0]) 1 := ⟨by decide, by decide, by decide, by decide, by decide, by decide⟩
  have e3 : Cn 9 [rD [[0, 0], [0, 1], [1, 1]]] = some (.tuple [.str "lot", iD [0]], []) := by
    rw [← res3]; exact even_ct (W := W) (n := n + 1) o3
  have e1 : Cn 9 [rD (List.replicate 12 [0])] = some (.tuple [.str "even"], []) := by
    rw [← res1]; exact even_ct (W := W) (n := n + 1) o1
  have c1 : ev Cn (.call 9 [] [(.lst [(.lst [(.con (.int (0))), (.con (.int (0)))]), (.lst [(.con (.int (0))), (.con (.int (1)))]), (.lst [(.con (.int (1))), (.con (.int (1)))])])]) E = some (.tuple [.str "lot", iD [0]], E) := by
    rw [ev, evL1 (d := rD [[0, 0], [0, 1], [1, 1]]) (e1 := E) rfl]
    simp only [Option.bind_some, permL, e3, Option.map_some]
  have c2 : ev Cn (.call 9 [] [(.prm .mul [(.lst [(.lst [(.con (.int (0)))])]), (.con (.int (12)))])]) E = some (.tuple [.str "even"], E) := by
    have q : ev Cn (.prm .mul [(.lst [(.lst [(.con (.int (0)))])]), (.con (.int (12)))]) E = some (rD (List.replicate 12 [0]), E) := prm2_eq (opd_ex (e1 := E) (d := rD [[0]]) (fun _ z => by cases z) rfl) (opd_ex (e1 := E) (d := .int 12) (fun _ z => by cases z) rfl) rfl rfl rfl
    rw [ev, evL1 q]
    simp only [Option.bind_some, permL, e1, Option.map_some]
  have q1 : qEq (.tuple [.str "lot", iD [0]]) (.tuple [.str "lot", iD [0]]) = some (.bool true) := by kernel_rfl
  have q2 : qEq (.tuple [.str "even"]) (.tuple [.str "even"]) = some (.bool true) := by kernel_rfl
  have f1 := prm2_eq (p := .eq) (b := .tup [(.con (.str "lot")), (.lst [(.con (.int (0)))])]) (opd_ex (fun _ z => by cases z) c1) (opd_ex (e1 := E) (d := .tuple [.str "lot", iD [0]]) (fun _ z => by cases z) rfl) rfl rfl q1
  have f2 := prm2_eq (p := .eq) (b := .tup [(.con (.str "even"))]) (opd_ex (fun _ z => by cases z) c2) (opd_ex (e1 := E) (d := .tuple [.str "even"]) (fun _ z => by cases z) rfl) rfl rfl q2
  refine run_rt (b := false) (e := E) ?_
  refine (exB_nx (e := E) (l := []) (for_eq (ds := [.int 8]) (xs := (List.range 8).map fun i : Nat => PyData.int (i : Nat)) (b := false) (env1 := L8 (iD ns) .no .no .no .no .no .no .no) rfl rfl g1)).trans (exB_rt (ret_eq ?_))
  rw [ev, f1]
  simp only [Option.bind_some, isTrueD, if_true]
  exact f2
end
end K56

namespace K56
open PySem PySem.Spec PyProof.Rows L2 PD
theorem no_kw {x : Str} {ks : List Str} {perm : List Nat} {l : List (Str × List Str × List Nat)} (h : (l.all fun q => !decide (q.1 = x)) = true) : (x, ks, perm) ∉ l := fun hm => by
  have := List.all_eq_true.mp h _ hm
  simp at this
theorem kweven_or_lot : ∀ ks perm, (("even_or_lot" : Str), ks, perm) ∈ Γ.kws → ∀ (kV doc pm : Value) (an : Option Addr) (cdv ct : Value) (ws us : List Value), ws.length = ks.length → perm.mapM (fun i => ws[i]?) = some us → bindArgs (PySem.W.fnOf "even_or_lot" "even_or_lot" (defArgs seven_or_lot) (defBody seven_or_lot) (defScope seven_or_lot) .none kV doc pm an cdv ct) ⟨[], ks.zip ws⟩ = pure ((["rows"] : List Str).zip us) := by
  intro ks perm hk kV doc pm an cdv ct ws us hl hu
  have hk : (ks = (["rows"] : List Str) ∧ perm = ([0] : List Nat)) := by
    revert hk
    suffices all : ∀ q ∈ Γ.kws, q.1 = ("even_or_lot" : Str) → (q.2.1 = (["rows"] : List Str) ∧ q.2.2 = ([0] : List Nat)) from fun hm => all _ hm rfl
    decide +kernel
  rcases hk with ⟨rfl, rfl⟩
  · match ws, hl, hu with
    | [w0], _, hu => cases hu; rfl
end K56
namespace K56
open PySem PySem.Spec PyProof.Rows L2 PD
theorem all_in {K : PySem.W.Frag} {h : Heap} {mg : Str → Option Value} (X : K.In h) (Gn : h.Ns mainGlobals mg) {f0 f1 f2 f3 f4 f5 f6 f7 f8 f9 f10 f11 f12 f13 f14 f15 f16 f17 f18 f19 f20 f21 f22 : Addr} {od0 od1 od2 od3 od4 od5 od6 od7 od8 od9 od10 od11 od12 od13 od14 od15 od16 od17 od18 od19 od20 od21 od22 an0 an1 an2 an3 an4 an5 an6 an7 an8 an9 an10 an11 an12 an13 an14 an15 an16 an17 an18 an19 an20 an21 an22 : Option Addr} {sl0 sl1 sl2 sl3 sl4 sl5 sl6 sl7 sl8 sl9 sl10 sl11 sl12 sl13 sl14 sl15 sl16 sl17 sl18 sl19 sl20 sl21 sl22 : Array (Option Value)} {oc0 oc1 oc2 oc3 oc4 oc5 oc6 oc7 oc8 oc9 oc10 oc11 oc12 oc13 oc14 oc15 oc16 oc17 oc18 oc19 oc20 oc21 oc22 kV0 kV1 kV2 kV3 kV4 kV5 kV6 kV7 kV8 kV9 kV10 kV11 kV12 kV13 kV14 kV15 kV16 kV17 kV18 kV19 kV20 kV21 kV22 dc0 dc1 dc2 dc3 dc4 dc5 dc6 dc7 dc8 dc9 dc10 dc11 dc12 dc13 dc14 dc15 dc16 dc17 dc18 dc19 dc20 dc21 dc22 pm0 pm1 pm2 pm3 pm4 pm5 pm6 pm7 pm8 pm9 pm10 pm11 pm12 pm13 pm14 pm15 pm16 pm17 pm18 pm19 pm20 pm21 pm22 cd0 cd1 cd2 cd3 cd4 cd5 cd6 cd7 cd8 cd9 cd10 cd11 cd12 cd13 cd14 cd15 cd16 cd17 cd18 cd19 cd20 cd21 cd22 ct0 ct1 ct2 ct3 ct4 ct5 ct6 ct7 ct8 ct9 ct10 ct11 ct12 ct13 ct14 ct15 ct16 ct17 ct18 ct19 ct20 ct21 ct22 : Value} {t0 t1 t2 : Tok}
    (a0 : PySem.W.nsIn K mainGlobals "is_whole" = some (some (.ref f0))) (l0 : K.lookup f0 = some ⟨oc0, od0, .func (PySem.W.fnOf "is_whole" "is_whole" (defArgs sis_whole) (defBody sis_whole) (defScope sis_whole) .none kV0 dc0 pm0 an0 cd0 ct0), sl0⟩) (c0 : PySem.W.codeIn K cd0 "is_whole" = true) (k0 : PySem.W.keepIn K (.ref f0) = true)
    (a1 : PySem.W.nsIn K mainGlobals "lots_of" = some (some (.ref f1))) (l1 : K.lookup f1 = some ⟨oc1, od1, .func (PySem.W.fnOf "lots_of" "lots_of" (defArgs slots_of) (defBody slots_of) (defScope slots_of) .none kV1 dc1 pm1 an1 cd1 ct1), sl1⟩) (c1 : PySem.W.codeIn K cd1 "lots_of" = true) (k1 : PySem.W.keepIn K (.ref f1) = true)
    (a2 : PySem.W.nsIn K mainGlobals "are_letters" = some (some (.ref f2))) (l2 : K.lookup f2 = some ⟨oc2, od2, .func (PySem.W.fnOf "are_letters" "are_letters" (defArgs sare_letters) (defBody sare_letters) (defScope sare_letters) .none kV2 dc2 pm2 an2 cd2 ct2), sl2⟩) (c2 : PySem.W.codeIn K cd2 "are_letters" = true) (k2 : PySem.W.keepIn K (.ref f2) = true)
    (a3 : PySem.W.nsIn K mainGlobals "are_rows_by" = some (some (.ref f3))) (l3 : K.lookup f3 = some ⟨oc3, od3, .func (PySem.W.fnOf "are_rows_by" "are_rows_by" (defArgs sare_rows_by) (defBody sare_rows_by) (defScope sare_rows_by) .none kV3 dc3 pm3 an3 cd3 ct3), sl3⟩) (c3 : PySem.W.codeIn K cd3 "are_rows_by" = true) (k3 : PySem.W.keepIn K (.ref f3) = true)
    (a4 : PySem.W.nsIn K mainGlobals "check_rows" = some (some (.ref f4))) (l4 : K.lookup f4 = some ⟨oc4, od4, .func (PySem.W.fnOf "check_rows" "check_rows" (defArgs scheck_rows) (defBody scheck_rows) (defScope scheck_rows) .none kV4 dc4 pm4 an4 cd4 ct4), sl4⟩) (c4 : PySem.W.codeIn K cd4 "check_rows" = true) (k4 : PySem.W.keepIn K (.ref f4) = true)
    (a5 : PySem.W.nsIn K mainGlobals "letters_at" = some (some (.ref f5))) (l5 : K.lookup f5 = some ⟨oc5, od5, .func (PySem.W.fnOf "letters_at" "letters_at" (defArgs sletters_at) (defBody sletters_at) (defScope sletters_at) .none kV5 dc5 pm5 an5 cd5 ct5), sl5⟩) (c5 : PySem.W.codeIn K cd5 "letters_at" = true) (k5 : PySem.W.keepIn K (.ref f5) = true)
    (a6 : PySem.W.nsIn K mainGlobals "shown_by" = some (some (.ref f6))) (l6 : K.lookup f6 = some ⟨oc6, od6, .func (PySem.W.fnOf "shown_by" "shown_by" (defArgs sshown_by) (defBody sshown_by) (defScope sshown_by) .none kV6 dc6 pm6 an6 cd6 ct6), sl6⟩) (c6 : PySem.W.codeIn K cd6 "shown_by" = true) (k6 : PySem.W.keepIn K (.ref f6) = true)
    (a7 : PySem.W.nsIn K mainGlobals "having" = some (some (.ref f7))) (l7 : K.lookup f7 = some ⟨oc7, od7, .func (PySem.W.fnOf "having" "having" (defArgs shaving) (defBody shaving) (defScope shaving) .none kV7 dc7 pm7 an7 cd7 ct7), sl7⟩) (c7 : PySem.W.codeIn K cd7 "having" = true) (k7 : PySem.W.keepIn K (.ref f7) = true)
    (a8 : PySem.W.nsIn K mainGlobals "is_even_at" = some (some (.ref f8))) (l8 : K.lookup f8 = some ⟨oc8, od8, .func (PySem.W.fnOf "is_even_at" "is_even_at" (defArgs sis_even_at) (defBody sis_even_at) (defScope sis_even_at) .none kV8 dc8 pm8 an8 cd8 ct8), sl8⟩) (c8 : PySem.W.codeIn K cd8 "is_even_at" = true) (k8 : PySem.W.keepIn K (.ref f8) = true)
    (a9 : PySem.W.nsIn K mainGlobals "even_or_lot" = some (some (.ref f9))) (l9 : K.lookup f9 = some ⟨oc9, od9, .func (PySem.W.fnOf "even_or_lot" "even_or_lot" (defArgs seven_or_lot) (defBody seven_or_lot) (defScope seven_or_lot) .none kV9 dc9 pm9 an9 cd9 ct9), sl9⟩) (c9 : PySem.W.codeIn K cd9 "even_or_lot" = true) (k9 : PySem.W.keepIn K (.ref f9) = true)
    (a10 : PySem.W.nsIn K mainGlobals "_law_hash" = some (some (.ref f10))) (l10 : K.lookup f10 = some ⟨oc10, od10, .func (PySem.W.fnOf "_law_hash" "_law_hash" (defArgs s_law_hash) (defBody s_law_hash) (defScope s_law_hash) .none kV10 dc10 pm10 an10 cd10 ct10), sl10⟩) (c10 : PySem.W.codeIn K cd10 "_law_hash" = true) (k10 : PySem.W.keepIn K (.ref f10) = true)
    (a11 : PySem.W.nsIn K mainGlobals "_law_random" = some (some (.ref f11))) (l11 : K.lookup f11 = some ⟨oc11, od11, .func (PySem.W.fnOf "_law_random" "_law_random" (defArgs s_law_random) (defBody s_law_random) (defScope s_law_random) .none kV11 dc11 pm11 an11 cd11 ct11), sl11⟩) (c11 : PySem.W.codeIn K cd11 "_law_random" = true) (k11 : PySem.W.keepIn K (.ref f11) = true)
    (a12 : PySem.W.nsIn K mainGlobals "_law_cell" = some (some (.ref f12))) (l12 : K.lookup f12 = some ⟨oc12, od12, .func (PySem.W.fnOf "_law_cell" "_law_cell" (defArgs s_law_cell) (defBody s_law_cell) (defScope s_law_cell) .none kV12 dc12 pm12 an12 cd12 ct12), sl12⟩) (c12 : PySem.W.codeIn K cd12 "_law_cell" = true) (k12 : PySem.W.keepIn K (.ref f12) = true)
    (a13 : PySem.W.nsIn K mainGlobals "_law_generator" = some (some (.ref f13))) (l13 : K.lookup f13 = some ⟨oc13, od13, .func (PySem.W.fnOf "_law_generator" "_law_generator" (defArgs s_law_generator) (defBody s_law_generator) (defScope s_law_generator) .none kV13 dc13 pm13 an13 cd13 ct13), sl13⟩) (c13 : PySem.W.codeIn K cd13 "_law_generator" = true) (k13 : PySem.W.keepIn K (.ref f13) = true)
    (a14 : PySem.W.nsIn K mainGlobals "_law_same" = some (some (.ref f14))) (l14 : K.lookup f14 = some ⟨oc14, od14, .func (PySem.W.fnOf "_law_same" "_law_same" (defArgs s_law_same) (defBody s_law_same) (defScope s_law_same) .none kV14 dc14 pm14 an14 cd14 ct14), sl14⟩) (c14 : PySem.W.codeIn K cd14 "_law_same" = true) (k14 : PySem.W.keepIn K (.ref f14) = true)
    (a15 : PySem.W.nsIn K mainGlobals "_law_lots" = some (some (.ref f15))) (l15 : K.lookup f15 = some ⟨oc15, od15, .func (PySem.W.fnOf "_law_lots" "_law_lots" (defArgs s_law_lots) (defBody s_law_lots) (defScope s_law_lots) .none kV15 dc15 pm15 an15 cd15 ct15), sl15⟩) (c15 : PySem.W.codeIn K cd15 "_law_lots" = true) (k15 : PySem.W.keepIn K (.ref f15) = true)
    (a16 : PySem.W.nsIn K mainGlobals "_law_letter_rows" = some (some (.ref f16))) (l16 : K.lookup f16 = some ⟨oc16, od16, .func (PySem.W.fnOf "_law_letter_rows" "_law_letter_rows" (defArgs s_law_letter_rows) (defBody s_law_letter_rows) (defScope s_law_letter_rows) .none kV16 dc16 pm16 an16 cd16 ct16), sl16⟩) (c16 : PySem.W.codeIn K cd16 "_law_letter_rows" = true) (k16 : PySem.W.keepIn K (.ref f16) = true)
    (a17 : PySem.W.nsIn K mainGlobals "_law_letters" = some (some (.ref f17))) (l17 : K.lookup f17 = some ⟨oc17, od17, .func (PySem.W.fnOf "_law_letters" "_law_letters" (defArgs s_law_letters) (defBody s_law_letters) (defScope s_law_letters) .none kV17 dc17 pm17 an17 cd17 ct17), sl17⟩) (c17 : PySem.W.codeIn K cd17 "_law_letters" = true) (k17 : PySem.W.keepIn K (.ref f17) = true)
    (a18 : PySem.W.nsIn K mainGlobals "_law_shown" = some (some (.ref f18))) (l18 : K.lookup f18 = some ⟨oc18, od18, .func (PySem.W.fnOf "_law_shown" "_law_shown" (defArgs s_law_shown) (defBody s_law_shown) (defScope s_law_shown) .none kV18 dc18 pm18 an18 cd18 ct18), sl18⟩) (c18 : PySem.W.codeIn K cd18 "_law_shown" = true) (k18 : PySem.W.keepIn K (.ref f18) = true)
    (a19 : PySem.W.nsIn K mainGlobals "_law_having" = some (some (.ref f19))) (l19 : K.lookup f19 = some ⟨oc19, od19, .func (PySem.W.fnOf "_law_having" "_law_having" (defArgs s_law_having) (defBody s_law_having) (defScope s_law_having) .none kV19 dc19 pm19 an19 cd19 ct19), sl19⟩) (c19 : PySem.W.codeIn K cd19 "_law_having" = true) (k19 : PySem.W.keepIn K (.ref f19) = true)
    (a20 : PySem.W.nsIn K mainGlobals "_law_first" = some (some (.ref f20))) (l20 : K.lookup f20 = some ⟨oc20, od20, .func (PySem.W.fnOf "_law_first" "_law_first" (defArgs s_law_first) (defBody s_law_first) (defScope s_law_first) .none kV20 dc20 pm20 an20 cd20 ct20), sl20⟩) (c20 : PySem.W.codeIn K cd20 "_law_first" = true) (k20 : PySem.W.keepIn K (.ref f20) = true)
    (a21 : PySem.W.nsIn K mainGlobals "_law_right" = some (some (.ref f21))) (l21 : K.lookup f21 = some ⟨oc21, od21, .func (PySem.W.fnOf "_law_right" "_law_right" (defArgs s_law_right) (defBody s_law_right) (defScope s_law_right) .none kV21 dc21 pm21 an21 cd21 ct21), sl21⟩) (c21 : PySem.W.codeIn K cd21 "_law_right" = true) (k21 : PySem.W.keepIn K (.ref f21) = true)
    (a22 : PySem.W.nsIn K mainGlobals "law" = some (some (.ref f22))) (l22 : K.lookup f22 = some ⟨oc22, od22, .func (PySem.W.fnOf "law" "law" (defArgs slaw) (defBody slaw) (defScope slaw) .none kV22 dc22 pm22 an22 cd22 ct22), sl22⟩) (c22 : PySem.W.codeIn K cd22 "law" = true) (k22 : PySem.W.keepIn K (.ref f22) = true)
    (v0 : PySem.W.nsIn K mainGlobals "MOST_THINGS" = some (some (.int 5 t0)))
    (v1 : PySem.W.nsIn K mainGlobals "MOST_ROWS" = some (some (.int 12 t1)))
    (v2 : PySem.W.nsIn K mainGlobals "MOST_LETTER" = some (some (.int 9 t2)))
    (z0 : PySem.W.nsIn K mainGlobals "all" = some none)
    (z1 : PySem.W.nsIn K mainGlobals "bool" = some none)
    (z2 : PySem.W.nsIn K mainGlobals "enumerate" = some none)
    (z3 : PySem.W.nsIn K mainGlobals "int" = some none)
    (z4 : PySem.W.nsIn K mainGlobals "isinstance" = some none)
    (z5 : PySem.W.nsIn K mainGlobals "len" = some none)
    (z6 : PySem.W.nsIn K mainGlobals "list" = some none)
    (z7 : PySem.W.nsIn K mainGlobals "max" = some none)
    (z8 : PySem.W.nsIn K mainGlobals "range" = some none)
    (z9 : PySem.W.nsIn K mainGlobals "repr" = some none)
    (z10 : PySem.W.nsIn K mainGlobals "sorted" = some none)
    (z11 : PySem.W.nsIn K mainGlobals "str" = some none)
    (z12 : PySem.W.nsIn K mainGlobals "sum" = some none)
    (z13 : PySem.W.nsIn K mainGlobals "tuple" = some none) : TIn K mg Γ T := by
  refine ⟨fun x i ps m hx => ?_, fun x d hx => ?_, fun x hx => ?_⟩
  · have hm := PySem.mem_of_lookup hx
    revert hm
    suffices all : ∀ q ∈ Γ.defs, DefIn K mg Γ T q.1 q.2.1 q.2.2.1 q.2.2.2 from fun hm => all _ hm
    unfold Γ
    refine List.forall_mem_cons.mpr ⟨mkDef X Gn (st := sis_whole) (N := ["value"]) (mu := []) (cut := []) (tr := false) (n := 60) a0 l0 c0 k0 nis_whole (fun _ _ _ _ _ _ us hl => match us, hl with | [_], _ => rfl) (by show some (⟨1, 1, false, false, bis_whole⟩ : Fd) = some ⟨1, 1, false, false, cis_whole⟩; rw [eis_whole]) (fun _ => rfl) (fun ks perm hk => absurd hk (no_kw (by decide +kernel))), ?_⟩
    refine List.forall_mem_cons.mpr ⟨mkDef X Gn (st := slots_of) (N := ["many", "found", "thing", "_", "lot"]) (mu := []) (cut := []) (tr := false) (n := 60) a1 l1 c1 k1 nlots_of (fun _ _ _ _ _ _ us hl => match us, hl with | [_], _ => rfl) (by show some (⟨1, 5, false, false, blots_of⟩ : Fd) = some ⟨1, 5, false, false, clots_of⟩; rw [elots_of]) (fun _ => rfl) (fun ks perm hk => absurd hk (no_kw (by decide +kernel))), ?_⟩
    refine List.forall_mem_cons.mpr ⟨mkDef X Gn (st := sare_letters) (N := ["value", "many", "one"]) (mu := []) (cut := []) (tr := false) (n := 60) a2 l2 c2 k2 nare_letters (fun _ _ _ _ _ _ us hl => match us, hl with | [_, _], _ => rfl) (by show some (⟨2, 3, false, false, bare_letters⟩ : Fd) = some ⟨2, 3, false, false, care_letters⟩; rw [eare_letters]) (fun _ => rfl) (fun ks perm hk => absurd hk (no_kw (by decide +kernel))), ?_⟩
    refine List.forall_mem_cons.mpr ⟨mkDef X Gn (st := sare_rows_by) (N := ["value", "row"]) (mu := []) (cut := []) (tr := false) (n := 60) a3 l3 c3 k3 nare_rows_by (fun _ _ _ _ _ _ us hl => match us, hl with | [_], _ => rfl) (by show some (⟨1, 2, false, false, bare_rows_by⟩ : Fd) = some ⟨1, 2, false, false, care_rows_by⟩; rw [eare_rows_by]) (fun _ => rfl) (fun ks perm hk => absurd hk (no_kw (by decide +kernel))), ?_⟩
    refine List.forall_mem_cons.mpr ⟨mkDef X Gn (st := scheck_rows) (N := ["rows"]) (mu := []) (cut := []) (tr := false) (n := 60) a4 l4 c4 k4 ncheck_rows (fun _ _ _ _ _ _ us hl => match us, hl with | [_], _ => rfl) (by show some (⟨1, 1, false, false, bcheck_rows⟩ : Fd) = some ⟨1, 1, false, false, ccheck_rows⟩; rw [echeck_rows]) (fun _ => rfl) (fun ks perm hk => absurd hk (no_kw (by decide +kernel))), ?_⟩
    refine List.forall_mem_cons.mpr ⟨mkDef X Gn (st := sletters_at) (N := ["row", "lot", "thing"]) (mu := []) (cut := []) (tr := false) (n := 60) a5 l5 c5 k5 nletters_at (fun _ _ _ _ _ _ us hl => match us, hl with | [_, _], _ => rfl) (by show some (⟨2, 3, false, false, bletters_at⟩ : Fd) = some ⟨2, 3, false, false, cletters_at⟩; rw [eletters_at]) (fun _ => rfl) (fun ks perm hk => absurd hk (no_kw (by decide +kernel))), ?_⟩
    refine List.forall_mem_cons.mpr ⟨mkDef X Gn (st := sshown_by) (N := ["rows", "lot", "found", "row"]) (mu := ["found"]) (cut := []) (tr := false) (n := 60) a6 l6 c6 k6 nshown_by (fun _ _ _ _ _ _ us hl => match us, hl with | [_, _], _ => rfl) (by show some (⟨2, 4, false, false, bshown_by⟩ : Fd) = some ⟨2, 4, false, false, cshown_by⟩; rw [eshown_by]) (fun _ => rfl) (fun ks perm hk => absurd hk (no_kw (by decide +kernel))), ?_⟩
    refine List.forall_mem_cons.mpr ⟨mkDef X Gn (st := shaving) (N := ["rows", "lot", "letters", "at", "row"]) (mu := []) (cut := []) (tr := false) (n := 60) a7 l7 c7 k7 nhaving (fun _ _ _ _ _ _ us hl => match us, hl with | [_, _, _], _ => rfl) (by show some (⟨3, 5, false, false, bhaving⟩ : Fd) = some ⟨3, 5, false, false, chaving⟩; rw [ehaving]) (fun _ => rfl) (fun ks perm hk => absurd hk (no_kw (by decide +kernel))), ?_⟩
    refine List.forall_mem_cons.mpr ⟨mkDef X Gn (st := sis_even_at) (N := ["rows", "lot", "counts", "letters", "count"]) (mu := []) (cut := []) (tr := false) (n := 60) a8 l8 c8 k8 nis_even_at (fun _ _ _ _ _ _ us hl => match us, hl with | [_, _], _ => rfl) (by show some (⟨2, 5, false, false, bis_even_at⟩ : Fd) = some ⟨2, 5, false, false, cis_even_at⟩; rw [eis_even_at]) (fun _ => rfl) (fun ks perm hk => absurd hk (no_kw (by decide +kernel))), ?_⟩
    refine List.forall_mem_cons.mpr ⟨mkDef X Gn (st := seven_or_lot) (N := ["rows", "lot"]) (mu := []) (cut := [52]) (tr := true) (n := 60) a9 l9 c9 k9 neven_or_lot (fun _ _ _ _ _ _ us hl => match us, hl with | [_], _ => rfl) (by show some (⟨1, 2, false, true, beven_or_lot⟩ : Fd) = some ⟨1, 2, false, true, ceven_or_lot⟩; rw [eeven_or_lot]) (fun z => by cases z) (kweven_or_lot), ?_⟩
    refine List.forall_mem_cons.mpr ⟨mkDef X Gn (st := s_law_hash) (N := ["seed", "index", "mixed"]) (mu := []) (cut := []) (tr := false) (n := 60) a10 l10 c10 k10 n_law_hash (fun _ _ _ _ _ _ us hl => match us, hl with | [_, _], _ => rfl) (by show some (⟨2, 3, false, false, b_law_hash⟩ : Fd) = some ⟨2, 3, false, false, c_law_hash⟩; rw [e_law_hash]) (fun _ => rfl) (fun ks perm hk => absurd hk (no_kw (by decide +kernel))), ?_⟩
    refine List.forall_mem_cons.mpr ⟨mkDef X Gn (st := s_law_random) (N := ["generator", "bound", "drawn", "turn"]) (mu := ["generator"]) (cut := []) (tr := false) (n := 60) a11 l11 c11 k11 n_law_random (fun _ _ _ _ _ _ us hl => match us, hl with | [_, _], _ => rfl) (by show some (⟨2, 4, true, false, b_law_random⟩ : Fd) = some ⟨2, 4, true, false, c_law_random⟩; rw [e_law_random]) (fun _ => rfl) (fun ks perm hk => absurd hk (no_kw (by decide +kernel))), ?_⟩
    refine List.forall_mem_cons.mpr ⟨mkDef X Gn (st := s_law_cell) (N := ["script", "index"]) (mu := []) (cut := []) (tr := false) (n := 60) a12 l12 c12 k12 n_law_cell (fun _ _ _ _ _ _ us hl => match us, hl with | [_, _], _ => rfl) (by show some (⟨2, 2, false, false, b_law_cell⟩ : Fd) = some ⟨2, 2, false, false, c_law_cell⟩; rw [e_law_cell]) (fun _ => rfl) (fun ks perm hk => absurd hk (no_kw (by decide +kernel))), ?_⟩
    refine List.forall_mem_cons.mpr ⟨mkDef X Gn (st := s_law_generator) (N := ["script", "index", "seed"]) (mu := []) (cut := [75]) (tr := true) (n := 60) a13 l13 c13 k13 n_law_generator (fun _ _ _ _ _ _ us hl => match us, hl with | [_, _], _ => rfl) (by show some (⟨2, 3, false, true, b_law_generator⟩ : Fd) = some ⟨2, 3, false, true, c_law_generator⟩; rw [e_law_generator]) (fun z => by cases z) (fun ks perm hk => absurd hk (no_kw (by decide +kernel))), ?_⟩
    refine List.forall_mem_cons.mpr ⟨mkDef X Gn (st := s_law_same) (N := ["told", "due", "at"]) (mu := []) (cut := []) (tr := false) (n := 60) a14 l14 c14 k14 n_law_same (fun _ _ _ _ _ _ us hl => match us, hl with | [_, _], _ => rfl) (by show some (⟨2, 3, false, false, b_law_same⟩ : Fd) = some ⟨2, 3, false, false, c_law_same⟩; rw [e_law_same]) (fun _ => rfl) (fun ks perm hk => absurd hk (no_kw (by decide +kernel))), ?_⟩
    refine List.forall_mem_cons.mpr ⟨mkDef X Gn (st := s_law_lots) (N := ["many", "found", "thing", "size", "lot"]) (mu := []) (cut := []) (tr := false) (n := 60) a15 l15 c15 k15 n_law_lots (fun _ _ _ _ _ _ us hl => match us, hl with | [_], _ => rfl) (by show some (⟨1, 5, false, false, b_law_lots⟩ : Fd) = some ⟨1, 5, false, false, c_law_lots⟩; rw [e_law_lots]) (fun _ => rfl) (fun ks perm hk => absurd hk (no_kw (by decide +kernel))), ?_⟩
    refine List.forall_mem_cons.mpr ⟨mkDef X Gn (st := s_law_letter_rows) (N := ["generator", "most", "wide", "rows", "many", "top", "row", "thing"]) (mu := ["generator"]) (cut := []) (tr := false) (n := 60) a16 l16 c16 k16 n_law_letter_rows (fun _ _ _ _ _ _ us hl => match us, hl with | [_, _, _], _ => rfl) (by show some (⟨3, 8, true, false, b_law_letter_rows⟩ : Fd) = some ⟨3, 8, true, false, c_law_letter_rows⟩; rw [e_law_letter_rows]) (fun _ => rfl) (fun ks perm hk => absurd hk (no_kw (by decide +kernel))), ?_⟩
    refine List.forall_mem_cons.mpr ⟨mkDef X Gn (st := s_law_letters) (N := ["row", "lot", "thing"]) (mu := []) (cut := []) (tr := false) (n := 60) a17 l17 c17 k17 n_law_letters (fun _ _ _ _ _ _ us hl => match us, hl with | [_, _], _ => rfl) (by show some (⟨2, 3, false, false, b_law_letters⟩ : Fd) = some ⟨2, 3, false, false, c_law_letters⟩; rw [e_law_letters]) (fun _ => rfl) (fun ks perm hk => absurd hk (no_kw (by decide +kernel))), ?_⟩
    refine List.forall_mem_cons.mpr ⟨mkDef X Gn (st := s_law_shown) (N := ["rows", "lot", "found", "row"]) (mu := []) (cut := []) (tr := false) (n := 60) a18 l18 c18 k18 n_law_shown (fun _ _ _ _ _ _ us hl => match us, hl with | [_, _], _ => rfl) (by show some (⟨2, 4, false, false, b_law_shown⟩ : Fd) = some ⟨2, 4, false, false, c_law_shown⟩; rw [e_law_shown]) (fun _ => rfl) (fun ks perm hk => absurd hk (no_kw (by decide +kernel))), ?_⟩
    refine List.forall_mem_cons.mpr ⟨mkDef X Gn (st := s_law_having) (N := ["rows", "lot", "letters", "at", "row"]) (mu := []) (cut := []) (tr := false) (n := 60) a19 l19 c19 k19 n_law_having (fun _ _ _ _ _ _ us hl => match us, hl with | [_, _, _], _ => rfl) (by show some (⟨3, 5, false, false, b_law_having⟩ : Fd) = some ⟨3, 5, false, false, c_law_having⟩; rw [e_law_having]) (fun _ => rfl) (fun ks perm hk => absurd hk (no_kw (by decide +kernel))), ?_⟩
    refine List.forall_mem_cons.mpr ⟨mkDef X Gn (st := s_law_first) (N := ["rows", "lot", "counts", "letters", "count"]) (mu := []) (cut := []) (tr := false) (n := 60) a20 l20 c20 k20 n_law_first (fun _ _ _ _ _ _ us hl => match us, hl with | [_], _ => rfl) (by show some (⟨1, 5, false, false, b_law_first⟩ : Fd) = some ⟨1, 5, false, false, c_law_first⟩; rw [e_law_first]) (fun _ => rfl) (fun ks perm hk => absurd hk (no_kw (by decide +kernel))), ?_⟩
    refine List.forall_mem_cons.mpr ⟨mkDef X Gn (st := s_law_right) (N := ["rows", "kept", "due", "told"]) (mu := []) (cut := []) (tr := true) (n := 60) a21 l21 c21 k21 n_law_right (fun _ _ _ _ _ _ us hl => match us, hl with | [_], _ => rfl) (by show some (⟨1, 4, false, true, b_law_right⟩ : Fd) = some ⟨1, 4, false, true, c_law_right⟩; rw [e_law_right]) (fun z => by cases z) (fun ks perm hk => absurd hk (no_kw (by decide +kernel))), ?_⟩
    refine List.forall_mem_cons.mpr ⟨mkDef X Gn (st := slaw) (N := ["script", "index", "generator", "sums", "some", "rows", "bits", "row"]) (mu := ["generator"]) (cut := []) (tr := false) (n := 60) a22 l22 c22 k22 nlaw (fun _ _ _ _ _ _ us hl => match us, hl with | [_], _ => rfl) (by show some (⟨1, 8, false, false, blaw⟩ : Fd) = some ⟨1, 8, false, false, claw⟩; rw [elaw]) (fun _ => rfl) (fun ks perm hk => absurd hk (no_kw (by decide +kernel))), ?_⟩
    exact fun _ z => absurd z List.not_mem_nil
  · have hm := PySem.mem_of_lookup hx
    revert hm
    suffices all : ∀ q ∈ Γ.cons, ∃ u, mg q.1 = some u ∧ Sc q.2 u from fun hm => all _ hm
    unfold Γ
    refine List.forall_mem_cons.mpr ⟨⟨_, PySem.W.mg_of X Gn v0, .int _ _⟩, ?_⟩
    refine List.forall_mem_cons.mpr ⟨⟨_, PySem.W.mg_of X Gn v1, .int _ _⟩, ?_⟩
    refine List.forall_mem_cons.mpr ⟨⟨_, PySem.W.mg_of X Gn v2, .int _ _⟩, ?_⟩
    exact fun _ z => absurd z List.not_mem_nil
  · have hm : x ∈ Γ.blts := by simpa using hx
    revert hm
    suffices all : ∀ q ∈ Γ.blts, mg q = none from fun hm => all _ hm
    unfold Γ
    refine List.forall_mem_cons.mpr ⟨PySem.W.mg_none_of X Gn z0, ?_⟩
    refine List.forall_mem_cons.mpr ⟨PySem.W.mg_none_of X Gn z1, ?_⟩
    refine List.forall_mem_cons.mpr ⟨PySem.W.mg_none_of X Gn z2, ?_⟩
    refine List.forall_mem_cons.mpr ⟨PySem.W.mg_none_of X Gn z3, ?_⟩
    refine List.forall_mem_cons.mpr ⟨PySem.W.mg_none_of X Gn z4, ?_⟩
    refine List.forall_mem_cons.mpr ⟨PySem.W.mg_none_of X Gn z5, ?_⟩
    refine List.forall_mem_cons.mpr ⟨PySem.W.mg_none_of X Gn z6, ?_⟩
    refine List.forall_mem_cons.mpr ⟨PySem.W.mg_none_of X Gn z7, ?_⟩
    refine List.forall_mem_cons.mpr ⟨PySem.W.mg_none_of X Gn z8, ?_⟩
    refine List.forall_mem_cons.mpr ⟨PySem.W.mg_none_of X Gn z9, ?_⟩
    refine List.forall_mem_cons.mpr ⟨PySem.W.mg_none_of X Gn z10, ?_⟩
    refine List.forall_mem_cons.mpr ⟨PySem.W.mg_none_of X Gn z11, ?_⟩
    refine List.forall_mem_cons.mpr ⟨PySem.W.mg_none_of X Gn z12, ?_⟩
    refine List.forall_mem_cons.mpr ⟨PySem.W.mg_none_of X Gn z13, ?_⟩
    exact fun _ z => absurd z List.not_mem_nil
end K56

open PySem PySem.W PyProof.Rows
set_option maxHeartbeats 0 in
theorem PySem.Challenge.cw_lotstell_k56_whole_even_rows_holds : PySem.Challenge.rw_lotstell_k56_whole_even_rows.Holds := by
  w_on; o_law; k_head; (case hw => w_witness2)
  k_fill
  refine PD.walk_at (l := PySem.Challenge.rw_lotstell_k56_whole_even_rows) (most := 63) (n := 7) (i := 22) (x := "script") (Γ := K56.Γ) (T := K56.T) (W := 0) rfl (by decide) rfl rfl ⟨rfl, by decide, by decide⟩ (fun w h Y => PySem.W.kIn_of Y) ?F rfl (fun ns hl => ⟨[], K56.law_of (n := 0) ns hl⟩)
  case F =>
    intro w mg h KX Gn
    refine' K56.all_in KX Gn ?a0 ?l0 ?c0 ?k0 ?a1 ?l1 ?c1 ?k1 ?a2 ?l2 ?c2 ?k2 ?a3 ?l3 ?c3 ?k3 ?a4 ?l4 ?c4 ?k4 ?a5 ?l5 ?c5 ?k5 ?a6 ?l6 ?c6 ?k6 ?a7 ?l7 ?c7 ?k7 ?a8 ?l8 ?c8 ?k8 ?a9 ?l9 ?c9 ?k9 ?a10 ?l10 ?c10 ?k10 ?a11 ?l11 ?c11 ?k11 ?a12 ?l12 ?c12 ?k12 ?a13 ?l13 ?c13 ?k13 ?a14 ?l14 ?c14 ?k14 ?a15 ?l15 ?c15 ?k15 ?a16 ?l16 ?c16 ?k16 ?a17 ?l17 ?c17 ?k17 ?a18 ?l18 ?c18 ?k18 ?a19 ?l19 ?c19 ?k19 ?a20 ?l20 ?c20 ?k20 ?a21 ?l21 ?c21 ?k21 ?a22 ?l22 ?c22 ?k22 ?v0 ?v1 ?v2 ?z0 ?z1 ?z2 ?z3 ?z4 ?z5 ?z6 ?z7 ?z8 ?z9 ?z10 ?z11 ?z12 ?z13
    (case a0 => k_is)
    (case l0 => k_is)
    (case c0 => k_is)
    (case k0 => k_is)
    (case a1 => k_is)
    (case l1 => k_is)
    (case c1 => k_is)
    (case k1 => k_is)
    (case a2 => k_is)
    (case l2 => k_is)
    (case c2 => k_is)
    (case k2 => k_is)
    (case a3 => k_is)
    (case l3 => k_is)
    (case c3 => k_is)
    (case k3 => k_is)
    (case a4 => k_is)
    (case l4 => k_is)
    (case c4 => k_is)
    (case k4 => k_is)
    (case a5 => k_is)
    (case l5 => k_is)
    (case c5 => k_is)
    (case k5 => k_is)
    (case a6 => k_is)
    (case l6 => k_is)
    (case c6 => k_is)
    (case k6 => k_is)
    (case a7 => k_is)
    (case l7 => k_is)
    (case c7 => k_is)
    (case k7 => k_is)
    (case a8 => k_is)
    (case l8 => k_is)
    (case c8 => k_is)
    (case k8 => k_is)
    (case a9 => k_is)
    (case l9 => k_is)
    (case c9 => k_is)
    (case k9 => k_is)
    (case a10 => k_is)
    (case l10 => k_is)
    (case c10 => k_is)
    (case k10 => k_is)
    (case a11 => k_is)
    (case l11 => k_is)
    (case c11 => k_is)
    (case k11 => k_is)
    (case a12 => k_is)
    (case l12 => k_is)
    (case c12 => k_is)
    (case k12 => k_is)
    (case a13 => k_is)
    (case l13 => k_is)
    (case c13 => k_is)
    (case k13 => k_is)
    (case a14 => k_is)
    (case l14 => k_is)
    (case c14 => k_is)
    (case k14 => k_is)
    (case a15 => k_is)
    (case l15 => k_is)
    (case c15 => k_is)
    (case k15 => k_is)
    (case a16 => k_is)
    (case l16 => k_is)
    (case c16 => k_is)
    (case k16 => k_is)
    (case a17 => k_is)
    (case l17 => k_is)
    (case c17 => k_is)
    (case k17 => k_is)
    (case a18 => k_is)
    (case l18 => k_is)
    (case c18 => k_is)
    (case k18 => k_is)
    (case a19 => k_is)
    (case l19 => k_is)
    (case c19 => k_is)
    (case k19 => k_is)
    (case a20 => k_is)
    (case l20 => k_is)
    (case c20 => k_is)
    (case k20 => k_is)
    (case a21 => k_is)
    (case l21 => k_is)
    (case c21 => k_is)
    (case k21 => k_is)
    (case a22 => k_is)
    (case l22 => k_is)
    (case c22 => k_is)
    (case k22 => k_is)
    (case v0 => k_is)
    (case v1 => k_is)
    (case v2 => k_is)
    (case z0 => k_is)
    (case z1 => k_is)
    (case z2 => k_is)
    (case z3 => k_is)
    (case z4 => k_is)
    (case z5 => k_is)
    (case z6 => k_is)
    (case z7 => k_is)
    (case z8 => k_is)
    (case z9 => k_is)
    (case z10 => k_is)
    (case z11 => k_is)
    (case z12 => k_is)
    (case z13 => k_is)

